/- What the code computes, by a program. -/
import Derived.Test.YthimamnblklkbaaDoorGG
import Derived.Test.YthimamnblklkbaaDoorGC
import Derived.Test.YthimamnblklkbaaDoorGF
namespace Go.Proofs.YthimamnblklkbaaDoor
open Go Go.RowKit
set_option linter.unusedSimpArgs false
set_option linter.unusedVariables false

def alloconce_B1 (k70 : ((List Int) × Nat × (List Bool) × (List Bool) × Int × Int × Int) → Option (Bool)) (q63 : List Int) (p69 : Int) (q101 : List Bool) (q102 : List Bool) (p103 : Int) (p104 : Int) (l105 : List (Int × Int)) (r142 : Int) (k147 : ((List Int) × Int) → Option (Bool)) (q145 : List Int) (p146 : Int) : Option (Bool) :=
  if p146 < 8 then (if r142 < 0 then (some false) else (need (-9223372036854775808 ≤ (r142 + p146) ∧ (r142 + p146) ≤ 9223372036854775807) <|
if (r142 + p146) ≥ (((vflat q63 l105).length) : Int) then (some false) else (need (-9223372036854775808 ≤ (r142 + p146) ∧ (r142 + p146) ≤ 9223372036854775807) <|
need (0 ≤ (r142 + p146) ∧ (r142 + p146) < (((vflat q63 l105).length) : Int)) <|
need ((r142 + p146).toNat < q145.length) <|
if (q145.getD ((r142 + p146).toNat) 0) = 0 then (need (-9223372036854775808 ≤ (r142 + p146) ∧ (r142 + p146) ≤ 9223372036854775807) <|
need (0 ≤ (r142 + p146) ∧ (r142 + p146) < (((vflat q63 l105).length) : Int)) <|
need ((r142 + p146).toNat < q145.length) <|
need (-9223372036854775808 ≤ (p146 + 1) ∧ (p146 + 1) ≤ 9223372036854775807) <|
k147 ((q145.set ((r142 + p146).toNat) 7), (p146 + 1))) else (some false)))) else (need (-9223372036854775808 ≤ (p69 + 1) ∧ (p69 + 1) ≤ 9223372036854775807) <|
k70 (q145, (vflat q63 l105).length, q101, q102, p103, p104, (p69 + 1)))

def alloconce_J3 (i_ : Int) (b_ : Int) (k70 : ((List Int) × Nat × (List Bool) × (List Bool) × Int × Int × Int) → Option (Bool)) (q63 : List Int) (p69 : Int) (q101 : List Bool) (q102 : List Bool) (p103 : Int) (p104 : Int) (l105 : List (Int × Int)) (p106 : Int) (p134 : Bool) : Option (Bool) :=
  if p134 = true then ((some (placeOf 9 1 (2 + i_.tmod 20) (2 + b_.tmod 40) p106)).bind fun r142 =>
iter (fun k_ s_ => alloconce_B1 k70 q63 p69 q101 q102 p103 p104 l105 r142 k_ s_.1 s_.2) FUEL ((vflat q63 l105), 0)) else (need (-9223372036854775808 ≤ (p69 + 1) ∧ (p69 + 1) ≤ 9223372036854775807) <|
k70 ((vflat q63 l105), (vflat q63 l105).length, q101, q102, p103, p104, (p69 + 1)))

def alloconce_J2 (i_ : Int) (b_ : Int) (ss : List TSt7) (k70 : ((List Int) × Nat × (List Bool) × (List Bool) × Int × Int × Int) → Option (Bool)) (q63 : List Int) (p69 : Int) (q101 : List Bool) (q102 : List Bool) (p103 : Int) (p104 : Int) (l105 : List (Int × Int)) (p106 : Int) (p107 : Int) : Option (Bool) :=
  (afree_M q63 l105 (2 + i_.tmod 20) (2 + b_.tmod 40) (placeOf 6 1 (2 + i_.tmod 20) (2 + b_.tmod 40) 0) (placeOf 7 1 (2 + i_.tmod 20) (2 + b_.tmod 40) 0)).bind fun r111 =>
if r111.1 = p103 then (if r111.2 = p104 then (if (l105.length : Int) > 9 then (some false) else (need (0 ≤ p69 ∧ p69 < (ss.length : Int)) <|
if ((ss.getD p69.toNat dSt7).c0).tmod 4 = 1 then (alloconce_J3 i_ b_ k70 q63 p69 q101 q102 p103 p104 l105 p106 (decide (p107 = 0))) else (alloconce_J3 i_ b_ k70 q63 p69 q101 q102 p103 p104 l105 p106 false))) else (some false)) else (some false)

def alloconce_J5 (i_ : Int) (b_ : Int) (ss : List TSt7) (k70 : ((List Int) × Nat × (List Bool) × (List Bool) × Int × Int × Int) → Option (Bool)) (q63 : List Int) (q65 : List Bool) (q66 : List Bool) (p67 : Int) (p68 : Int) (p69 : Int) (r237 : Int × Int × List (Int × Int)) : Option (Bool) :=
  if r237.2.1 = 0 then (need (0 ≤ r237.1 ∧ r237.1 < 64) <|
need (q65.length = 64) <|
need (-9223372036854775808 ≤ (p67 - 1) ∧ (p67 - 1) ≤ 9223372036854775807) <|
alloconce_J2 i_ b_ ss k70 q63 p69 (q65.set r237.1.toNat true) q66 (p67 - 1) p68 r237.2.2 r237.1 r237.2.1) else (alloconce_J2 i_ b_ ss k70 q63 p69 q65 q66 p67 p68 r237.2.2 r237.1 r237.2.1)

def alloconce_J6 (i_ : Int) (b_ : Int) (ss : List TSt7) (k70 : ((List Int) × Nat × (List Bool) × (List Bool) × Int × Int × Int) → Option (Bool)) (q63 : List Int) (q65 : List Bool) (q66 : List Bool) (p67 : Int) (p68 : Int) (p69 : Int) (r304 : Int × Int × List (Int × Int)) : Option (Bool) :=
  if r304.2.1 = 0 then (need (0 ≤ r304.1 ∧ r304.1 < 64) <|
need (q66.length = 64) <|
need (-9223372036854775808 ≤ (p68 - 1) ∧ (p68 - 1) ≤ 9223372036854775807) <|
alloconce_J2 i_ b_ ss k70 q63 p69 q65 (q66.set r304.1.toNat true) p67 (p68 - 1) r304.2.2 r304.1 r304.2.1) else (alloconce_J2 i_ b_ ss k70 q63 p69 q65 q66 p67 p68 r304.2.2 r304.1 r304.2.1)

def alloconce_B0 (i_ : Int) (b_ : Int) (ss : List TSt7) (k70 : ((List Int) × Nat × (List Bool) × (List Bool) × Int × Int × Int) → Option (Bool)) (q63 : List Int) (n64 : Nat) (q65 : List Bool) (q66 : List Bool) (p67 : Int) (p68 : Int) (p69 : Int) : Option (Bool) :=
  if p69 < (ss.length : Int) then (need (n64 = q63.length) <|
need (q63.length ≤ 17592186044415) <|
need ((q63.length : Int) ≤ 1000000000000) <|
if May 1 (2 + i_.tmod 20) (2 + b_.tmod 40) ∧ wordsOf 1 (2 + i_.tmod 20) (2 + b_.tmod 40) ≤ (q63.length : Int) then (need (0 ≤ p69 ∧ p69 < (ss.length : Int)) <|
if ((ss.getD p69.toNat dSt7).c0).tmod 4 = 0 then ((atakei_M q63 ([]) (2 + i_.tmod 20) (placeOf 6 1 (2 + i_.tmod 20) (2 + b_.tmod 40) 0)).bind fun r237 =>
if ((r237.2.1 = 7) ↔ (p67 = 0)) then (if r237.2.1 = 0 then (if r237.1 < 2 then (some false) else (if r237.1 ≥ (2 + i_.tmod 20) then (some false) else (need (0 ≤ r237.1 ∧ r237.1 < 64) <|
need (q65.length = 64) <|
if (q65.getD r237.1.toNat false) = true then (some false) else (alloconce_J5 i_ b_ ss k70 q63 q65 q66 p67 p68 p69 r237)))) else (alloconce_J5 i_ b_ ss k70 q63 q65 q66 p67 p68 p69 r237)) else (some false)) else (if ((ss.getD p69.toNat dSt7).c0).tmod 4 = 1 then ((atakeb_M q63 ([]) 1 (2 + i_.tmod 20) (2 + b_.tmod 40) (placeOf 7 1 (2 + i_.tmod 20) (2 + b_.tmod 40) 0)).bind fun r304 =>
if ((r304.2.1 = 7) ↔ (p68 = 0)) then (if r304.2.1 = 0 then (if r304.1 < 1 then (some false) else (if r304.1 ≥ (2 + b_.tmod 40) then (some false) else (need (0 ≤ r304.1 ∧ r304.1 < 64) <|
need (q66.length = 64) <|
if (q66.getD r304.1.toNat false) = true then (some false) else ((aused_M q63 r304.2.2 (2 + b_.tmod 40) (placeOf 7 1 (2 + i_.tmod 20) (2 + b_.tmod 40) 0) r304.1).bind fun r350 =>
if r350 = true then (alloconce_J6 i_ b_ ss k70 q63 q65 q66 p67 p68 p69 r304) else (some false))))) else (alloconce_J6 i_ b_ ss k70 q63 q65 q66 p67 p68 p69 r304)) else (some false)) else (if ((ss.getD p69.toNat dSt7).c0).tmod 4 = 2 then (need (0 ≤ p69 ∧ p69 < (ss.length : Int)) <|
need (-9223372036854775808 ≤ (2 + (mx ((ss.getD p69.toNat dSt7).c1) 0).tmod 40) ∧ (2 + (mx ((ss.getD p69.toNat dSt7).c1) 0).tmod 40) ≤ 9223372036854775807) <|
(some (2 + (mx ((ss.getD p69.toNat dSt7).c1) 0).tmod 40)).bind fun r382 =>
(agivei_M q63 ([]) (2 + i_.tmod 20) (placeOf 6 1 (2 + i_.tmod 20) (2 + b_.tmod 40) 0) r382).bind fun r385 =>
need (0 ≤ r382 ∧ r382 < 64) <|
need (q65.length = 64) <|
if ((r385.1 = 0) ↔ ((q65.getD r382.toNat false) = true)) then (need (0 ≤ r382 ∧ r382 < 64) <|
need (q65.length = 64) <|
if (q65.getD r382.toNat false) = true then (need (0 ≤ r382 ∧ r382 < 64) <|
need (q65.length = 64) <|
need (-9223372036854775808 ≤ (p67 + 1) ∧ (p67 + 1) ≤ 9223372036854775807) <|
alloconce_J2 i_ b_ ss k70 q63 p69 (q65.set r382.toNat false) q66 (p67 + 1) p68 r385.2 r382 r385.1) else (alloconce_J2 i_ b_ ss k70 q63 p69 q65 q66 p67 p68 r385.2 r382 r385.1)) else (some false)) else (need (0 ≤ p69 ∧ p69 < (ss.length : Int)) <|
need (-9223372036854775808 ≤ (1 + (mx ((ss.getD p69.toNat dSt7).c1) 0).tmod 50) ∧ (1 + (mx ((ss.getD p69.toNat dSt7).c1) 0).tmod 50) ≤ 9223372036854775807) <|
(some (1 + (mx ((ss.getD p69.toNat dSt7).c1) 0).tmod 50)).bind fun r438 =>
(agiveb_M q63 ([]) (2 + b_.tmod 40) (placeOf 7 1 (2 + i_.tmod 20) (2 + b_.tmod 40) 0) r438).bind fun r441 =>
need (0 ≤ r438 ∧ r438 < 64) <|
need (q66.length = 64) <|
if ((r441.1 = 0) ↔ ((q66.getD r438.toNat false) = true)) then (need (0 ≤ r438 ∧ r438 < 64) <|
need (q66.length = 64) <|
if (q66.getD r438.toNat false) = true then (need (0 ≤ r438 ∧ r438 < 64) <|
need (q66.length = 64) <|
need (-9223372036854775808 ≤ (p68 + 1) ∧ (p68 + 1) ≤ 9223372036854775807) <|
alloconce_J2 i_ b_ ss k70 q63 p69 q65 (q66.set r438.toNat false) p67 (p68 + 1) r441.2 r438 r441.1) else (alloconce_J2 i_ b_ ss k70 q63 p69 q65 q66 p67 p68 r441.2 r438 r441.1)) else (some false))))) else ((some (if May 1 (2 + i_.tmod 20) (2 + b_.tmod 40) then (8 : Int) else 1)).bind fun r493 =>
some false)) else ((works07_M).bind fun r500 =>
some r500)

def alloconce_M (i_ : Int) (b_ : Int) (ss : List TSt7) : Option (Bool) :=
  if (ss.length : Int) > 60 then ((works07_M).bind fun r6 =>
some r6) else (need (-9223372036854775808 ≤ i_ ∧ i_ ≤ 9223372036854775807) <|
need (-9223372036854775808 ≤ (2 + i_.tmod 20) ∧ (2 + i_.tmod 20) ≤ 9223372036854775807) <|
need (-9223372036854775808 ≤ b_ ∧ b_ ≤ 9223372036854775807) <|
need (-9223372036854775808 ≤ (2 + b_.tmod 40) ∧ (2 + b_.tmod 40) ≤ 9223372036854775807) <|
(some (wordsOf 1 (2 + i_.tmod 20) (2 + b_.tmod 40))).bind fun r31 =>
if (((fmtW 1 (2 + i_.tmod 20) (2 + b_.tmod 40)).length) : Int) = r31 then (if (((fmtW 1 (2 + i_.tmod 20) (2 + b_.tmod 40)).length) : Int) = 0 then (some false) else (need (-9223372036854775808 ≤ ((2 + i_.tmod 20) - 2) ∧ ((2 + i_.tmod 20) - 2) ≤ 9223372036854775807) <|
need (-9223372036854775808 ≤ ((2 + b_.tmod 40) - 1) ∧ ((2 + b_.tmod 40) - 1) ≤ 9223372036854775807) <|
iter (fun k_ s_ => alloconce_B0 i_ b_ ss k_ s_.1 s_.2.1 s_.2.2.1 s_.2.2.2.1 s_.2.2.2.2.1 s_.2.2.2.2.2.1 s_.2.2.2.2.2.2) FUEL ((fmtW 1 (2 + i_.tmod 20) (2 + b_.tmod 40)), (fmtW 1 (2 + i_.tmod 20) (2 + b_.tmod 40)).length, (List.replicate 64 false), (List.replicate 64 false), ((2 + i_.tmod 20) - 2), ((2 + b_.tmod 40) - 1), 0))) else (some false))

set_option maxRecDepth 20000 in
set_option maxHeartbeats 4000000 in
set_option linter.unusedVariables false in
theorem alloconce_walk {i_ : Int} {b_ : Int} {ss : List TSt7} {sa : Option Addr} {sc : Nat}  (B : Nat) (w : World) (hB : w.heap.size = B) (hT : CellsAt (some ⟨0, 0, none⟩) tab8 w) (hst : CellsAt sa (kSt7.cells ss) w) (hm : alloconce_M i_ b_ ss = some true) : Spec Tryd.prog 18 #[(.int .u8 i_), (.int .u8 b_), (.slice sa ss.length sc)] B w [] (fun v H' => v = .bool true ∧ H' = []) := by
  refine spec_Q Tryd.func18 rfl fun hs => ?_
  unfold alloconce_M at hm
  have hG : 0 < B := by rw [← hB]; exact lt_of_cells hT (v := .int .u8 0) (by kernel_rfl)
  refine W.seq fun K1 hK1 => ?_
  refine W.region ?_
  refine ops_run 1 (by kernel_rfl) ?_
  refine ops_done (by kernel_rfl) ?_
  refine hK1 _ _ ?_
  clear hK1
  refine W.seq fun K2 hK2 => ?_
  refine W.seq fun K3 hK3 => ?_
  refine W.region ?_
  refine ops_run 3 (by kernel_rfl) ?_
  refine ops_done (by kernel_rfl) ?_
  refine hK3 _ _ ?_
  clear hK3
  refine W.cond (decide ((ss.length : Int) > 60)) (by kernel_rfl) (fun h4 => ?_) (fun h4 => ?_)
  ·
    have h4p : (ss.length : Int) > 60 := of_decide_eq_true h4
    replace hm := ite_yes hm h4p
    refine W.seq fun K5 hK5 => ?_
    refine W.region ?_
    obtain ⟨r6, h7, hm⟩ := bind_some hm
    refine ops_call0 hs (by kernel_rfl) (works07_walk (hG := hG) (hT := (hs.oldCells hT)) (hm := h7) B _) ?_
    rintro _ _ w9 ⟨rfl, rfl⟩ hs10
    have hs11 := St.ap0 hs10
    refine ops_run 1 (by kernel_rfl) ?_
    refine ops_done (by kernel_rfl) ?_
    refine hK5 _ _ ?_
    clear hK5
    refine W.ret (ret_seq ?_)
    refine ret_of (.bool r6) (by kernel_rfl) ⟨_, ⟨congrArg Value.bool (some_inj hm), rfl⟩, hs11⟩
  ·
    have h4p : ¬ ((ss.length : Int) > 60) := of_decide_eq_false h4
    replace hm := ite_no hm h4p
    refine W.skip ?_
    refine hK2 _ _ ?_
    clear hK2
    refine W.seq fun K12 hK12 => ?_
    refine W.region ?_
    refine ops_run 1 (by kernel_rfl) ?_
    obtain ⟨h13, hm⟩ := need_some hm
    refine ops_val (v := .int .i64 (IntKind.i64.wrap i_)) (v' := .int .i64 i_) (by kernel_rfl) (congrArg (Value.int .i64) (wrap_i64 h13.1 h13.2)) ?_
    refine ops_run 1 (by kernel_rfl) ?_
    obtain ⟨h14, hm⟩ := need_some hm
    refine ops_val (v := .int .i64 (IntKind.i64.wrap (2 + i_.tmod 20))) (v' := .int .i64 (2 + i_.tmod 20)) (by kernel_rfl) (congrArg (Value.int .i64) (wrap_i64 h14.1 h14.2)) ?_
    refine ops_run 1 (by kernel_rfl) ?_
    obtain ⟨h15, hm⟩ := need_some hm
    refine ops_val (v := .int .i64 (IntKind.i64.wrap b_)) (v' := .int .i64 b_) (by kernel_rfl) (congrArg (Value.int .i64) (wrap_i64 h15.1 h15.2)) ?_
    refine ops_run 1 (by kernel_rfl) ?_
    obtain ⟨h16, hm⟩ := need_some hm
    refine ops_val (v := .int .i64 (IntKind.i64.wrap (2 + b_.tmod 40))) (v' := .int .i64 (2 + b_.tmod 40)) (by kernel_rfl) (congrArg (Value.int .i64) (wrap_i64 h16.1 h16.2)) ?_
    refine ops_run 1 (by kernel_rfl) ?_
    refine ops_new (fun b => .pointer (some ⟨b, 0, none⟩)) (.cells [(.int .i64 0), (.int .i64 0), (.int .i64 0)].toArray 63 (0, 0)) hs (by kernel_rfl) (fun b19 w17 hs18 => ?_)
    refine ops_store (off := 0) (cs := [(.int .i64 0), (.int .i64 0), (.int .i64 0)]) (vs := [(.int .i64 1), (.int .i64 (2 + i_.tmod 20)), (.int .i64 (2 + b_.tmod 40))]) hs18 (by kernel_rfl) (by simp) rfl (fun w20 hs21 => ?_)
    have hs22 : St B w [] w20 [blk b19 (.cells [(.int .i64 1), (.int .i64 (2 + i_.tmod 20)), (.int .i64 (2 + b_.tmod 40))].toArray 63 (0, 0))] := hs21
    refine ops_done (by kernel_rfl) ?_
    refine hK12 _ _ ?_
    clear hK12
    refine W.seq fun K23 hK23 => ?_
    refine W.region ?_
    refine ops_R (runs_loadAgg (ad := ⟨b19, 0, none⟩) (cs := [(.int .i64 1), (.int .i64 (2 + i_.tmod 20)), (.int .i64 (2 + b_.tmod 40))]) (by kernel_rfl) (cells_sub (hs22.heapAt 0 rfl) rfl)) ?_
    refine ops_call0 hs22 (by kernel_rfl) (lformat_spec (gw := 1) (gi := (2 + i_.tmod 20)) (gb := (2 + b_.tmod 40)) B _) ?_
    rintro _ _ w26 ⟨a24, c25, rfl, rfl⟩ hs27
    have hs28 := St.ap1 hs27
    refine ops_run 1 (by kernel_rfl) ?_
    refine ops_done (by kernel_rfl) ?_
    refine hK23 _ _ ?_
    clear hK23
    refine W.seq fun K29 hK29 => ?_
    refine W.seq fun K30 hK30 => ?_
    refine W.region ?_
    refine ops_run 2 (by kernel_rfl) ?_
    refine ops_R (runs_loadAgg (ad := ⟨b19, 0, none⟩) (cs := [(.int .i64 1), (.int .i64 (2 + i_.tmod 20)), (.int .i64 (2 + b_.tmod 40))]) (by kernel_rfl) (cells_sub (hs28.heapAt 1 rfl) rfl)) ?_
    obtain ⟨r31, h32, hm⟩ := bind_some hm
    replace h32 := some_inj h32
    refine ops_call0 hs28 (by kernel_rfl) (lwords_spec (gw := 1) (gi := (2 + i_.tmod 20)) (gb := (2 + b_.tmod 40)) B _) ?_
    rintro _ _ w33 ⟨hv35, hH36⟩ hs34
    rw [h32] at hv35
    try rw [h32] at hH36
    subst hv35 hH36
    have hs37 := St.ap0 hs34
    refine ops_run 2 (by kernel_rfl) ?_
    rcases Bool.eq_false_or_eq_true (!decide ((((fmtW 1 (2 + i_.tmod 20) (2 + b_.tmod 40)).length) : Int) = r31)) with h38 | h38
    rotate_left
    ·
      have h38p : (((fmtW 1 (2 + i_.tmod 20) (2 + b_.tmod 40)).length) : Int) = r31 := of_decide_eq_true (bnot_false h38)
      replace hm := ite_yes hm h38p
      refine ops_set 43 (v := .bool false) (eq_bool_of (by kernel_rfl) h38) ?_
      refine ops_set 42 (v := .bool false) (eq_bool_of (by kernel_rfl) h38) ?_
      refine ops_run 4 (by kernel_rfl) ?_
      refine ops_done (by kernel_rfl) ?_
      refine hK30 _ _ ?_
      clear hK30
      refine W.cond (decide ((((fmtW 1 (2 + i_.tmod 20) (2 + b_.tmod 40)).length) : Int) = 0)) (by kernel_rfl) (fun h39 => ?_) (fun h39 => ?_)
      ·
        have h39p : (((fmtW 1 (2 + i_.tmod 20) (2 + b_.tmod 40)).length) : Int) = 0 := of_decide_eq_true h39
        replace hm := ite_yes hm h39p
        refine W.seq fun K40 hK40 => ?_
        refine W.region ?_
        refine ops_run 1 (by kernel_rfl) ?_
        refine ops_done (by kernel_rfl) ?_
        refine hK40 _ _ ?_
        clear hK40
        refine W.ret (ret_seq ?_)
        have hs41 := St.tk0 hs37
        refine ret_of (.bool false) (by kernel_rfl) ⟨_, ⟨congrArg Value.bool (some_inj hm), rfl⟩, hs41⟩
      ·
        have h39p : ¬ ((((fmtW 1 (2 + i_.tmod 20) (2 + b_.tmod 40)).length) : Int) = 0) := of_decide_eq_false h39
        replace hm := ite_no hm h39p
        refine W.skip ?_
        refine hK29 _ _ ?_
        clear hK29
        refine W.seq fun K42 hK42 => ?_
        refine W.region ?_
        refine ops_new (fun b => .pointer (some ⟨b, 0, none⟩)) (.cells (kBool.cells (List.replicate 64 false)).toArray 134 (0, 0)) hs37 (by kernel_rfl) (fun b48 w46 hs47 => ?_)
        refine ops_new (fun b => .pointer (some ⟨b, 0, none⟩)) (.cells (kBool.cells (List.replicate 64 false)).toArray 134 (0, 0)) hs47 (by kernel_rfl) (fun b54 w52 hs53 => ?_)
        refine ops_done (by kernel_rfl) ?_
        refine hK42 _ _ ?_
        clear hK42
        refine W.seq fun K55 hK55 => ?_
        refine W.region ?_
        refine ops_run 1 (by kernel_rfl) ?_
        refine ops_R (runs_load (ad := ⟨b19, 1, none⟩) (v := (.int .i64 (2 + i_.tmod 20))) (by kernel_rfl) (hs53.cellAt 3 rfl rfl)) ?_
        obtain ⟨h56, hm⟩ := need_some hm
        refine ops_val (v := .int .i64 (IntKind.i64.wrap ((2 + i_.tmod 20) - 2))) (v' := .int .i64 ((2 + i_.tmod 20) - 2)) (by kernel_rfl) (congrArg (Value.int .i64) (wrap_i64 h56.1 h56.2)) ?_
        refine ops_run 1 (by kernel_rfl) ?_
        refine ops_done (by kernel_rfl) ?_
        refine hK55 _ _ ?_
        clear hK55
        refine W.seq fun K57 hK57 => ?_
        refine W.region ?_
        refine ops_run 1 (by kernel_rfl) ?_
        refine ops_R (runs_load (ad := ⟨b19, 2, none⟩) (v := (.int .i64 (2 + b_.tmod 40))) (by kernel_rfl) (hs53.cellAt 3 rfl rfl)) ?_
        obtain ⟨h58, hm⟩ := need_some hm
        refine ops_val (v := .int .i64 (IntKind.i64.wrap ((2 + b_.tmod 40) - 1))) (v' := .int .i64 ((2 + b_.tmod 40) - 1)) (by kernel_rfl) (congrArg (Value.int .i64) (wrap_i64 h58.1 h58.2)) ?_
        refine ops_run 1 (by kernel_rfl) ?_
        refine ops_done (by kernel_rfl) ?_
        refine hK57 _ _ ?_
        clear hK57
        refine W.seq fun K59 hK59 => ?_
        refine W.seq fun K60 hK60 => ?_
        refine W.region ?_
        refine ops_run 1 (by kernel_rfl) ?_
        refine ops_done (by kernel_rfl) ?_
        refine hK60 _ _ ?_
        clear hK60
        refine W.block ?_
        have hs74 := St.f1 hs53
        have hs75 := St.f2 hs74
        have hs76 := St.f3 hs75
        refine W.loop_iter (G := (List Int) × Nat × (List Bool) × (List Bool) × Int × Int × Int × (Option Addr) × Nat) (σ := (List Int) × Nat × (List Bool) × (List Bool) × Int × Int × Int) (fun | (q63, n64, q65, q66, p67, p68, p69, m61, m62) => (q63, n64, q65, q66, p67, p68, p69)) (fun | (q63, n64, q65, q66, p67, p68, p69, m61, m62), s_, w_ => (∃ us, s_ = slots 278 [(2, (.slice sa ss.length sc)), (7, (.pointer (some ⟨b19, 0, none⟩))), (8, (.slice m61 n64 m62)), (9, (.pointer (some ⟨b48, 0, none⟩))), (10, (.pointer (some ⟨b54, 0, none⟩))), (11, (.int .i64 p67)), (12, (.int .i64 p68)), (13, (.int .i64 p69))] us) ∧ St B w [] w_ [blk b19 (.cells [(.int .i64 1), (.int .i64 (2 + i_.tmod 20)), (.int .i64 (2 + b_.tmod 40))].toArray 63 (0, 0)), kU64.row m61 m62 q63, blk b48 (.cells (kBool.cells q65).toArray 134 (0, 0)), blk b54 (.cells (kBool.cells q66).toArray 134 (0, 0))]) ((fmtW 1 (2 + i_.tmod 20) (2 + b_.tmod 40)), (fmtW 1 (2 + i_.tmod 20) (2 + b_.tmod 40)).length, (List.replicate 64 false), (List.replicate 64 false), ((2 + i_.tmod 20) - 2), ((2 + b_.tmod 40) - 1), 0, a24, c25) ⟨slots_intro _ (by kernel_rfl), hs76⟩ hm ?_
        rintro k70 ih71 ⟨q63, n64, q65, q66, p67, p68, p69, m61, m62⟩ _ w72 ⟨⟨us, rfl⟩, hs73⟩ hm
        replace hm : alloconce_B0 i_ b_ ss k70 q63 n64 q65 q66 p67 p68 p69 = some true := hm
        unfold alloconce_B0 at hm
        refine W.seq fun K77 hK77 => ?_
        refine W.seq fun K78 hK78 => ?_
        refine W.region ?_
        refine ops_run 4 (by kernel_rfl) ?_
        refine ops_done (by kernel_rfl) ?_
        refine hK78 _ _ ?_
        clear hK78
        refine W.cond (decide (p69 < (ss.length : Int))) (by kernel_rfl) (fun h79 => ?_) (fun h79 => ?_)
        ·
          have h79p : p69 < (ss.length : Int) := of_decide_eq_true h79
          replace hm := ite_yes hm h79p
          refine W.skip ?_
          refine hK77 _ _ ?_
          clear hK77
          refine W.seq fun K80 hK80 => ?_
          refine W.block ?_
          refine W.seq fun K81 hK81 => ?_
          refine W.region ?_
          refine ops_run 1 (by kernel_rfl) ?_
          obtain ⟨h82, hm⟩ := need_some hm
          refine ops_set 60 (v := (.slice m61 q63.length m62)) (Eq.trans (by kernel_rfl) (congrArg (fun n_ => Value.slice m61 n_ m62) h82)) ?_
          obtain ⟨h84, hm⟩ := need_some hm
          refine ops_call0 hs73 (by kernel_rfl) (new_spec (hc := (St.kcells kU64 hs73 1 rfl)) (hn := (St.capnil kU64 hs73 1 rfl)) (hsz := h84) B _) ?_
          rintro _ _ w85 ⟨b83, rfl, rfl⟩ hs86
          have hs87 := St.ap1 hs86
          refine ops_run 1 (by kernel_rfl) ?_
          refine ops_done (by kernel_rfl) ?_
          refine hK81 _ _ ?_
          clear hK81
          refine W.seq fun K88 hK88 => ?_
          refine W.region ?_
          refine ops_run 1 (by kernel_rfl) ?_
          refine ops_R (runs_loadAgg (ad := ⟨b19, 0, none⟩) (cs := [(.int .i64 1), (.int .i64 (2 + i_.tmod 20)), (.int .i64 (2 + b_.tmod 40))]) (by kernel_rfl) (cells_sub (hs87.heapAt 1 rfl) rfl)) ?_
          obtain ⟨h89, hm⟩ := need_some hm
          rcases Bool.eq_false_or_eq_true (decide (May 1 (2 + i_.tmod 20) (2 + b_.tmod 40) ∧ wordsOf 1 (2 + i_.tmod 20) (2 + b_.tmod 40) ≤ (q63.length : Int))) with h90 | h90
          ·
            have h90p : May 1 (2 + i_.tmod 20) (2 + b_.tmod 40) ∧ wordsOf 1 (2 + i_.tmod 20) (2 + b_.tmod 40) ≤ (q63.length : Int) := of_decide_eq_true h90
            replace hm := ite_yes hm h90p
            refine ops_call0 hs87 (by kernel_rfl) (anew_ok (gw := 1) (gi := (2 + i_.tmod 20)) (gb := (2 + b_.tmod 40)) (hv := (hs87.entAt 0 rfl viewA_at)) (hz := h89) (hP := h90p) B _) ?_
            rintro _ _ w94 ⟨b91, b92, b93, rfl, rfl⟩ hs95
            have hs96 := St.ap3 hs95
            refine ops_run 5 (by kernel_rfl) ?_
            refine ops_done (by kernel_rfl) ?_
            refine hK88 _ _ ?_
            clear hK88
            refine W.seq fun K97 hK97 => ?_
            refine W.seq fun K98 hK98 => ?_
            refine W.region ?_
            refine ops_run 10 (by kernel_rfl) ?_
            refine ops_done (by kernel_rfl) ?_
            refine hK98 _ _ ?_
            clear hK98
            refine W.cond_false false (by kernel_rfl) rfl ?_
            refine W.skip ?_
            refine hK97 _ _ ?_
            clear hK97
            refine W.seq fun K99 hK99 => ?_
            refine W.region ?_
            refine ops_run 1 (by kernel_rfl) ?_
            refine ops_done (by kernel_rfl) ?_
            refine hK99 _ _ ?_
            clear hK99
            refine W.seq fun K100 hK100 => ?_
            refine W.region ?_
            refine ops_run 1 (by kernel_rfl) ?_
            refine ops_done (by kernel_rfl) ?_
            refine hK100 _ _ ?_
            clear hK100
            refine W.seq_join (fun s_ w_ => ∃ (q101 : List Bool) (q102 : List Bool) (p103 : Int) (p104 : Int) (l105 : List (Int × Int)) (p106 : Int) (p107 : Int), (∃ us, s_ = slots 278 [(2, (.slice sa ss.length sc)), (7, (.pointer (some ⟨b19, 0, none⟩))), (9, (.pointer (some ⟨b48, 0, none⟩))), (10, (.pointer (some ⟨b54, 0, none⟩))), (11, (.int .i64 p103)), (12, (.int .i64 p104)), (13, (.int .i64 p69)), (14, (.pointer (some ⟨b83, 0, none⟩))), (15, (.pointer (some ⟨b91, 0, none⟩))), (17, (.int .i64 p106)), (18, (.int .i64 p107))] us) ∧ St B w [] w_ [blk b19 (.cells [(.int .i64 1), (.int .i64 (2 + i_.tmod 20)), (.int .i64 (2 + b_.tmod 40))].toArray 63 (0, 0)), blk b48 (.cells (kBool.cells q101).toArray 134 (0, 0)), blk b54 (.cells (kBool.cells q102).toArray 134 (0, 0)), viewA (ptr b83) q63 l105, blk b92 (.cells [(.pointer (some ⟨b83, 0, none⟩)), (.int .i64 (placeOf 6 1 (2 + i_.tmod 20) (2 + b_.tmod 40) 0)), (.int .i64 (2 + i_.tmod 20))].toArray 151 (0, 0)), blk b93 (.cells [(.pointer (some ⟨b83, 0, none⟩)), (.int .i64 (placeOf 7 1 (2 + i_.tmod 20) (2 + b_.tmod 40) 0)), (.int .i64 (2 + b_.tmod 40))].toArray 151 (0, 0)), blk b91 (.cells [(.pointer (some ⟨b83, 0, none⟩)), (.int .i64 1), (.int .i64 (2 + i_.tmod 20)), (.int .i64 (2 + b_.tmod 40)), (.pointer (some ⟨b92, 0, none⟩)), (.int .i64 (2 + i_.tmod 20)), (.pointer (some ⟨b93, 0, none⟩)), (.int .i64 (2 + b_.tmod 40))].toArray 188 (0, 0)), kU64.row m61 m62 q63] ∧ alloconce_J2 i_ b_ ss k70 q63 p69 q101 q102 p103 p104 l105 p106 p107 = some true) ?_ ?_
            ·
              rintro _ w108 ⟨q101, q102, p103, p104, l105, p106, p107, ⟨us, rfl⟩, hs109, hm⟩
              unfold alloconce_J2 at hm
              refine W.seq fun K110 hK110 => ?_
              refine W.region ?_
              refine ops_run 1 (by kernel_rfl) ?_
              obtain ⟨r111, h112, hm⟩ := bind_some hm
              refine ops_call0 hs109 (by kernel_rfl) (afree_walk (hab := (hs109.heapAt 6 rfl)) (hib := (hs109.heapAt 4 rfl)) (hbb := (hs109.heapAt 5 rfl)) (hv := (hs109.entAt 3 rfl viewA_at)) (hm := h112) B _) ?_
              rintro _ _ w113 ⟨rfl, rfl⟩ hs114
              have hs115 := St.ap0 hs114
              refine ops_run 5 (by kernel_rfl) ?_
              refine ops_done (by kernel_rfl) ?_
              refine hK110 _ _ ?_
              clear hK110
              refine W.seq fun K116 hK116 => ?_
              refine W.seq fun K117 hK117 => ?_
              refine W.region ?_
              refine ops_run 4 (by kernel_rfl) ?_
              rcases Bool.eq_false_or_eq_true (!decide (r111.1 = p103)) with h118 | h118
              rotate_left
              ·
                have h118p : r111.1 = p103 := of_decide_eq_true (bnot_false h118)
                replace hm := ite_yes hm h118p
                refine ops_set 222 (v := .bool false) (eq_bool_of (by kernel_rfl) h118) ?_
                refine ops_set 221 (v := .bool false) (eq_bool_of (by kernel_rfl) h118) ?_
                refine ops_run 5 (by kernel_rfl) ?_
                rcases Bool.eq_false_or_eq_true (!decide (r111.2 = p104)) with h119 | h119
                rotate_left
                ·
                  have h119p : r111.2 = p104 := of_decide_eq_true (bnot_false h119)
                  replace hm := ite_yes hm h119p
                  refine ops_set 227 (v := .bool false) (eq_bool_of (by kernel_rfl) h119) ?_
                  refine ops_set 225 (v := .bool false) (eq_bool_of (by kernel_rfl) h119) ?_
                  refine ops_set 226 (v := .bool false) (eq_bool_of (by kernel_rfl) h119) ?_
                  refine ops_run 1 (by kernel_rfl) ?_
                  refine ops_call0 hs115 (by kernel_rfl) (writes_spec (hv := (hs115.entAt 3 rfl viewA_at)) B _) ?_
                  rintro _ _ w122 ⟨a120, c121, rfl, rfl⟩ hs123
                  have hs124 := St.ap1 hs123
                  refine ops_run 3 (by kernel_rfl) ?_
                  refine ops_done (by kernel_rfl) ?_
                  refine hK117 _ _ ?_
                  clear hK117
                  refine W.cond (decide ((l105.length : Int) > 9)) (by kernel_rfl) (fun h125 => ?_) (fun h125 => ?_)
                  ·
                    have h125p : (l105.length : Int) > 9 := of_decide_eq_true h125
                    replace hm := ite_yes hm h125p
                    refine W.seq fun K126 hK126 => ?_
                    refine W.region ?_
                    refine ops_run 1 (by kernel_rfl) ?_
                    refine ops_done (by kernel_rfl) ?_
                    refine hK126 _ _ ?_
                    clear hK126
                    refine W.ret (ret_seq (ret_block (ret_seq (ret_seq (ret_block (ret_seq ?_))))))
                    have hs127 := St.tk0 hs124
                    refine ret_of (.bool false) (by kernel_rfl) ⟨_, ⟨congrArg Value.bool (some_inj hm), rfl⟩, hs127⟩
                  ·
                    have h125p : ¬ ((l105.length : Int) > 9) := of_decide_eq_false h125
                    replace hm := ite_no hm h125p
                    refine W.skip ?_
                    refine hK116 _ _ ?_
                    clear hK116
                    refine W.seq fun K128 hK128 => ?_
                    refine W.region ?_
                    refine ops_run 1 (by kernel_rfl) ?_
                    refine ops_call0 hs124 (by kernel_rfl) (flat_spec (hv := (hs124.entAt 4 rfl viewA_at)) B _) ?_
                    rintro _ _ w131 ⟨a129, c130, rfl, rfl⟩ hs132
                    have hs133 := St.ap1 hs132
                    refine ops_run 1 (by kernel_rfl) ?_
                    refine ops_done (by kernel_rfl) ?_
                    refine hK128 _ _ ?_
                    clear hK128
                    refine W.seq_join (fun s_ w_ => ∃ (p134 : Bool), (∃ us, s_ = slots 278 [(2, (.slice sa ss.length sc)), (7, (.pointer (some ⟨b19, 0, none⟩))), (8, (.slice a129 ((vflat q63 l105).length) c130)), (9, (.pointer (some ⟨b48, 0, none⟩))), (10, (.pointer (some ⟨b54, 0, none⟩))), (11, (.int .i64 p103)), (12, (.int .i64 p104)), (13, (.int .i64 p69)), (17, (.int .i64 p106)), (245, (.bool p134))] us) ∧ St B w [] w_ [blk b19 (.cells [(.int .i64 1), (.int .i64 (2 + i_.tmod 20)), (.int .i64 (2 + b_.tmod 40))].toArray 63 (0, 0)), kU64.row a129 c130 (vflat q63 l105), blk b48 (.cells (kBool.cells q101).toArray 134 (0, 0)), blk b54 (.cells (kBool.cells q102).toArray 134 (0, 0)), kWr.row a120 c121 l105, viewA (ptr b83) q63 l105, blk b92 (.cells [(.pointer (some ⟨b83, 0, none⟩)), (.int .i64 (placeOf 6 1 (2 + i_.tmod 20) (2 + b_.tmod 40) 0)), (.int .i64 (2 + i_.tmod 20))].toArray 151 (0, 0)), blk b93 (.cells [(.pointer (some ⟨b83, 0, none⟩)), (.int .i64 (placeOf 7 1 (2 + i_.tmod 20) (2 + b_.tmod 40) 0)), (.int .i64 (2 + b_.tmod 40))].toArray 151 (0, 0)), blk b91 (.cells [(.pointer (some ⟨b83, 0, none⟩)), (.int .i64 1), (.int .i64 (2 + i_.tmod 20)), (.int .i64 (2 + b_.tmod 40)), (.pointer (some ⟨b92, 0, none⟩)), (.int .i64 (2 + i_.tmod 20)), (.pointer (some ⟨b93, 0, none⟩)), (.int .i64 (2 + b_.tmod 40))].toArray 188 (0, 0)), kU64.row m61 m62 q63] ∧ alloconce_J3 i_ b_ k70 q63 p69 q101 q102 p103 p104 l105 p106 p134 = some true) ?_ ?_
                    ·
                      rintro _ w135 ⟨p134, ⟨us, rfl⟩, hs136, hm⟩
                      unfold alloconce_J3 at hm
                      refine W.cond p134 (by kernel_rfl) (fun h137 => ?_) (fun h137 => ?_)
                      ·
                        have h137p : p134 = true := h137
                        replace hm := ite_yes hm h137p
                        refine W.seq fun K138 hK138 => ?_
                        refine W.region ?_
                        refine ops_R (runs_loadAgg (ad := ⟨b19, 0, none⟩) (cs := [(.int .i64 1), (.int .i64 (2 + i_.tmod 20)), (.int .i64 (2 + b_.tmod 40))]) (by kernel_rfl) (cells_sub (hs136.heapAt 0 rfl) rfl)) ?_
                        refine ops_run 1 (by kernel_rfl) ?_
                        refine ops_call0 hs136 (by kernel_rfl) (blockat_spec (gw := 1) (gi := (2 + i_.tmod 20)) (gb := (2 + b_.tmod 40)) (n_ := p106) B _) ?_
                        rintro _ _ w139 ⟨rfl, rfl⟩ hs140
                        have hs141 := St.ap0 hs140
                        refine ops_run 1 (by kernel_rfl) ?_
                        obtain ⟨r142, h143, hm⟩ := bind_some hm
                        replace h143 := some_inj h143
                        refine ops_set 21 (v := .int .i64 r142) (Eq.trans (by kernel_rfl) (congrArg (Value.int .i64) h143)) ?_
                        refine ops_done (by kernel_rfl) ?_
                        refine hK138 _ _ ?_
                        clear hK138
                        refine W.seq fun K144 hK144 => ?_
                        refine W.region ?_
                        refine ops_run 1 (by kernel_rfl) ?_
                        refine ops_done (by kernel_rfl) ?_
                        refine hK144 _ _ ?_
                        clear hK144
                        refine W.block ?_
                        refine W.loop_iter (G := (List Int) × Int) (σ := (List Int) × Int) (fun | (q145, p146) => (q145, p146)) (fun | (q145, p146), s_, w_ => (∃ us, s_ = slots 278 [(2, (.slice sa ss.length sc)), (7, (.pointer (some ⟨b19, 0, none⟩))), (8, (.slice a129 ((vflat q63 l105).length) c130)), (9, (.pointer (some ⟨b48, 0, none⟩))), (10, (.pointer (some ⟨b54, 0, none⟩))), (11, (.int .i64 p103)), (12, (.int .i64 p104)), (13, (.int .i64 p69)), (21, (.int .i64 r142)), (22, (.int .i64 p146))] us) ∧ St B w [] w_ [blk b19 (.cells [(.int .i64 1), (.int .i64 (2 + i_.tmod 20)), (.int .i64 (2 + b_.tmod 40))].toArray 63 (0, 0)), kU64.row a129 c130 q145, blk b48 (.cells (kBool.cells q101).toArray 134 (0, 0)), blk b54 (.cells (kBool.cells q102).toArray 134 (0, 0)), kWr.row a120 c121 l105, viewA (ptr b83) q63 l105, blk b92 (.cells [(.pointer (some ⟨b83, 0, none⟩)), (.int .i64 (placeOf 6 1 (2 + i_.tmod 20) (2 + b_.tmod 40) 0)), (.int .i64 (2 + i_.tmod 20))].toArray 151 (0, 0)), blk b93 (.cells [(.pointer (some ⟨b83, 0, none⟩)), (.int .i64 (placeOf 7 1 (2 + i_.tmod 20) (2 + b_.tmod 40) 0)), (.int .i64 (2 + b_.tmod 40))].toArray 151 (0, 0)), blk b91 (.cells [(.pointer (some ⟨b83, 0, none⟩)), (.int .i64 1), (.int .i64 (2 + i_.tmod 20)), (.int .i64 (2 + b_.tmod 40)), (.pointer (some ⟨b92, 0, none⟩)), (.int .i64 (2 + i_.tmod 20)), (.pointer (some ⟨b93, 0, none⟩)), (.int .i64 (2 + b_.tmod 40))].toArray 188 (0, 0)), kU64.row m61 m62 q63]) ((vflat q63 l105), 0) ⟨slots_intro _ (by kernel_rfl), hs141⟩ hm ?_
                        rintro k147 ih148 ⟨q145, p146⟩ _ w149 ⟨⟨us, rfl⟩, hs150⟩ hm
                        replace hm : alloconce_B1 k70 q63 p69 q101 q102 p103 p104 l105 r142 k147 q145 p146 = some true := hm
                        unfold alloconce_B1 at hm
                        refine W.seq fun K151 hK151 => ?_
                        refine W.seq fun K152 hK152 => ?_
                        refine W.region ?_
                        refine ops_run 2 (by kernel_rfl) ?_
                        refine ops_done (by kernel_rfl) ?_
                        refine hK152 _ _ ?_
                        clear hK152
                        refine W.cond (decide (p146 < 8)) (by kernel_rfl) (fun h153 => ?_) (fun h153 => ?_)
                        ·
                          have h153p : p146 < 8 := of_decide_eq_true h153
                          replace hm := ite_yes hm h153p
                          refine W.skip ?_
                          refine hK151 _ _ ?_
                          clear hK151
                          refine W.seq fun K154 hK154 => ?_
                          refine W.block ?_
                          refine W.seq fun K155 hK155 => ?_
                          refine W.seq fun K156 hK156 => ?_
                          refine W.region ?_
                          refine ops_run 3 (by kernel_rfl) ?_
                          rcases Bool.eq_false_or_eq_true (decide (r142 < 0)) with h157 | h157
                          ·
                            have h157p : r142 < 0 := of_decide_eq_true h157
                            replace hm := ite_yes hm h157p
                            refine ops_set 255 (v := .bool true) (eq_bool_of (by kernel_rfl) h157) ?_
                            refine ops_set 254 (v := .bool true) (eq_bool_of (by kernel_rfl) h157) ?_
                            refine ops_run 16 (by kernel_rfl) ?_
                            refine ops_done (by kernel_rfl) ?_
                            refine hK156 _ _ ?_
                            clear hK156
                            refine W.cond_true true (by kernel_rfl) rfl ?_
                            refine W.seq fun K158 hK158 => ?_
                            refine W.region ?_
                            refine ops_run 1 (by kernel_rfl) ?_
                            refine ops_done (by kernel_rfl) ?_
                            refine hK158 _ _ ?_
                            clear hK158
                            refine W.ret (ret_seq (ret_block (ret_seq (ret_seq (ret_block (ret_block (ret_seq (ret_seq (ret_block (ret_seq ?_))))))))))
                            have hs159 := St.tk0 hs150
                            refine ret_of (.bool false) (by kernel_rfl) ⟨_, ⟨congrArg Value.bool (some_inj hm), rfl⟩, hs159⟩
                          ·
                            have h157p : ¬ (r142 < 0) := of_decide_eq_false h157
                            replace hm := ite_no hm h157p
                            refine ops_set 255 (v := .bool false) (eq_bool_of (by kernel_rfl) h157) ?_
                            refine ops_set 254 (v := .bool false) (eq_bool_of (by kernel_rfl) h157) ?_
                            refine ops_run 2 (by kernel_rfl) ?_
                            obtain ⟨h160, hm⟩ := need_some hm
                            refine ops_val (v := .int .i64 (IntKind.i64.wrap (r142 + p146))) (v' := .int .i64 (r142 + p146)) (by kernel_rfl) (congrArg (Value.int .i64) (wrap_i64 h160.1 h160.2)) ?_
                            refine ops_run 5 (by kernel_rfl) ?_
                            rcases Bool.eq_false_or_eq_true (decide ((r142 + p146) ≥ (((vflat q63 l105).length) : Int))) with h161 | h161
                            ·
                              have h161p : (r142 + p146) ≥ (((vflat q63 l105).length) : Int) := of_decide_eq_true h161
                              replace hm := ite_yes hm h161p
                              refine ops_set 263 (v := .bool true) (eq_bool_of (by kernel_rfl) h161) ?_
                              refine ops_set 261 (v := .bool true) (eq_bool_of (by kernel_rfl) h161) ?_
                              refine ops_set 262 (v := .bool true) (eq_bool_of (by kernel_rfl) h161) ?_
                              refine ops_run 8 (by kernel_rfl) ?_
                              refine ops_done (by kernel_rfl) ?_
                              refine hK156 _ _ ?_
                              clear hK156
                              refine W.cond_true true (by kernel_rfl) rfl ?_
                              refine W.seq fun K162 hK162 => ?_
                              refine W.region ?_
                              refine ops_run 1 (by kernel_rfl) ?_
                              refine ops_done (by kernel_rfl) ?_
                              refine hK162 _ _ ?_
                              clear hK162
                              refine W.ret (ret_seq (ret_block (ret_seq (ret_seq (ret_block (ret_block (ret_seq (ret_seq (ret_block (ret_seq ?_))))))))))
                              have hs163 := St.tk0 hs150
                              refine ret_of (.bool false) (by kernel_rfl) ⟨_, ⟨congrArg Value.bool (some_inj hm), rfl⟩, hs163⟩
                            ·
                              have h161p : ¬ ((r142 + p146) ≥ (((vflat q63 l105).length) : Int)) := of_decide_eq_false h161
                              replace hm := ite_no hm h161p
                              refine ops_set 263 (v := .bool false) (eq_bool_of (by kernel_rfl) h161) ?_
                              refine ops_set 261 (v := .bool false) (eq_bool_of (by kernel_rfl) h161) ?_
                              refine ops_set 262 (v := .bool false) (eq_bool_of (by kernel_rfl) h161) ?_
                              refine ops_run 3 (by kernel_rfl) ?_
                              obtain ⟨h164, hm⟩ := need_some hm
                              refine ops_val (v := .int .i64 (IntKind.i64.wrap (r142 + p146))) (v' := .int .i64 (r142 + p146)) (by kernel_rfl) (congrArg (Value.int .i64) (wrap_i64 h164.1 h164.2)) ?_
                              obtain ⟨h166, hm⟩ := need_some hm
                              have hk165 := lt_toNat h166
                              obtain ⟨h168, hm⟩ := need_some hm
                              have hk167 := h168
                              refine ops_R (runs_index (a := a129) (n := (vflat q63 l105).length) (z := (r142 + p146)) (size := 1) ((r142 + p146).toNat) (nat_of h166.1) hk165 (kU64.addr (St.kcells kU64 hs150 1 rfl) hk167) (by kernel_rfl)) ?_
                              refine ops_R (runs_load (ad := ((adr a129 (((r142 + p146).toNat) * 1)).add 0)) (v := (.int .u64 (q145.getD ((r142 + p146).toNat) 0))) (by kernel_rfl) (kU64.at (St.kcells kU64 hs150 1 rfl) hk167 0 0 rfl)) ?_
                              refine ops_run 2 (by kernel_rfl) ?_
                              refine ops_done (by kernel_rfl) ?_
                              refine hK156 _ _ ?_
                              clear hK156
                              refine W.cond (!decide ((q145.getD ((r142 + p146).toNat) 0) = 0)) (by kernel_rfl) (fun h169 => ?_) (fun h169 => ?_)
                              rotate_left
                              ·
                                have h169p : (q145.getD ((r142 + p146).toNat) 0) = 0 := of_decide_eq_true (bnot_false h169)
                                replace hm := ite_yes hm h169p
                                refine W.skip ?_
                                refine hK155 _ _ ?_
                                clear hK155
                                refine W.region ?_
                                refine ops_run 3 (by kernel_rfl) ?_
                                obtain ⟨h170, hm⟩ := need_some hm
                                refine ops_val (v := .int .i64 (IntKind.i64.wrap (r142 + p146))) (v' := .int .i64 (r142 + p146)) (by kernel_rfl) (congrArg (Value.int .i64) (wrap_i64 h170.1 h170.2)) ?_
                                obtain ⟨h172, hm⟩ := need_some hm
                                have hk171 := lt_toNat h172
                                obtain ⟨h174, hm⟩ := need_some hm
                                have hk173 := h174
                                refine ops_R (runs_index (a := a129) (n := (vflat q63 l105).length) (z := (r142 + p146)) (size := 1) ((r142 + p146).toNat) (nat_of h172.1) hk171 (kU64.addr (St.kcells kU64 hs150 1 rfl) hk173) (by kernel_rfl)) ?_
                                have hs177 := St.f1 hs150
                                refine ops_storeK kU64 (j := 0) (vs := [(.int .u64 7)]) 0 7 hs177 hk173 (Nat.le_of_ble_eq_true rfl) (by simp) rfl rfl (by kernel_rfl) (fun w175 hs176 => ?_)
                                refine ops_done (by kernel_rfl) ?_
                                refine normal_block ?_
                                refine hK154 _ _ ?_
                                clear hK154
                                refine W.region ?_
                                refine ops_run 1 (by kernel_rfl) ?_
                                obtain ⟨h179, hm⟩ := need_some hm
                                refine ops_val (v := .int .i64 (IntKind.i64.wrap (p146 + 1))) (v' := .int .i64 (p146 + 1)) (by kernel_rfl) (congrArg (Value.int .i64) (wrap_i64 h179.1 h179.2)) ?_
                                refine ops_run 1 (by kernel_rfl) ?_
                                refine ops_done (by kernel_rfl) ?_
                                have hs180 := St.f9 hs176
                                have hs181 := St.f9 hs180
                                have hs182 := St.f9 hs181
                                have hs183 := St.f9 hs182
                                have hs184 := St.f9 hs183
                                have hs185 := St.f9 hs184
                                have hs186 := St.f9 hs185
                                have hs187 := St.f9 hs186
                                have hs188 := St.f8 hs187
                                have hs189 := St.f9 hs188
                                refine loopAt_next ?_
                                exact ih148 ((q145.set ((r142 + p146).toNat) 7), (p146 + 1)) _ _ ⟨slots_intro _ (by kernel_rfl), hs189⟩ hm
                              ·
                                have h169p : ¬ ((q145.getD ((r142 + p146).toNat) 0) = 0) := of_decide_eq_false (bnot_true h169)
                                replace hm := ite_no hm h169p
                                refine W.seq fun K190 hK190 => ?_
                                refine W.region ?_
                                refine ops_run 1 (by kernel_rfl) ?_
                                refine ops_done (by kernel_rfl) ?_
                                refine hK190 _ _ ?_
                                clear hK190
                                refine W.ret (ret_seq (ret_block (ret_seq (ret_seq (ret_block (ret_block (ret_seq (ret_seq (ret_block (ret_seq ?_))))))))))
                                have hs191 := St.tk0 hs150
                                refine ret_of (.bool false) (by kernel_rfl) ⟨_, ⟨congrArg Value.bool (some_inj hm), rfl⟩, hs191⟩
                        ·
                          have h153p : ¬ (p146 < 8) := of_decide_eq_false h153
                          replace hm := ite_no hm h153p
                          refine W.exit (exit_seq (exit_seq (exit_here ?_)))
                          refine normal_block ?_
                          refine hK80 _ _ ?_
                          clear hK80
                          refine W.region ?_
                          refine ops_run 1 (by kernel_rfl) ?_
                          obtain ⟨h192, hm⟩ := need_some hm
                          refine ops_val (v := .int .i64 (IntKind.i64.wrap (p69 + 1))) (v' := .int .i64 (p69 + 1)) (by kernel_rfl) (congrArg (Value.int .i64) (wrap_i64 h192.1 h192.2)) ?_
                          refine ops_run 1 (by kernel_rfl) ?_
                          refine ops_done (by kernel_rfl) ?_
                          have hs193 := St.f3 hs150
                          have hs194 := St.f3 hs193
                          have hs195 := St.f3 hs194
                          have hs196 := St.f3 hs195
                          have hs197 := St.tk4 hs196
                          refine loopAt_next ?_
                          exact ih71 (q145, (vflat q63 l105).length, q101, q102, p103, p104, (p69 + 1), a129, c130) _ _ ⟨slots_intro _ (by kernel_rfl), hs197⟩ hm
                      ·
                        have h137p : ¬ (p134 = true) := ne_true_of_eq_false h137
                        replace hm := ite_no hm h137p
                        refine W.skip ?_
                        refine normal_block ?_
                        refine hK80 _ _ ?_
                        clear hK80
                        refine W.region ?_
                        refine ops_run 1 (by kernel_rfl) ?_
                        obtain ⟨h198, hm⟩ := need_some hm
                        refine ops_val (v := .int .i64 (IntKind.i64.wrap (p69 + 1))) (v' := .int .i64 (p69 + 1)) (by kernel_rfl) (congrArg (Value.int .i64) (wrap_i64 h198.1 h198.2)) ?_
                        refine ops_run 1 (by kernel_rfl) ?_
                        refine ops_done (by kernel_rfl) ?_
                        have hs199 := St.f3 hs136
                        have hs200 := St.f3 hs199
                        have hs201 := St.f3 hs200
                        have hs202 := St.f3 hs201
                        have hs203 := St.tk4 hs202
                        refine loopAt_next ?_
                        exact ih71 ((vflat q63 l105), (vflat q63 l105).length, q101, q102, p103, p104, (p69 + 1), a129, c130) _ _ ⟨slots_intro _ (by kernel_rfl), hs203⟩ hm
                    ·
                      refine W.region ?_
                      refine ops_run 2 (by kernel_rfl) ?_
                      obtain ⟨h205, hm⟩ := need_some hm
                      have hk204 := lt_toNat h205
                      refine ops_R (runs_index (a := sa) (n := ss.length) (z := p69) (size := 3) p69.toNat (nat_of h205.1) hk204 (kSt7.addr (hs133.oldCells hst) hk204) (by kernel_rfl)) ?_
                      refine ops_run 1 (by kernel_rfl) ?_
                      refine ops_R (runs_load (ad := ((adr sa (p69.toNat * 3)).add 0)) (v := (.int .u8 ((ss.getD p69.toNat dSt7).c0))) (by kernel_rfl) (kSt7.at (hs133.oldCells hst) hk204 dSt7 0 rfl)) ?_
                      refine ops_run 3 (by kernel_rfl) ?_
                      rcases Bool.eq_false_or_eq_true (decide (((ss.getD p69.toNat dSt7).c0).tmod 4 = 1)) with h206 | h206
                      ·
                        have h206p : ((ss.getD p69.toNat dSt7).c0).tmod 4 = 1 := of_decide_eq_true h206
                        replace hm := ite_yes hm h206p
                        refine ops_set 242 (v := .bool true) (eq_bool_of (by kernel_rfl) h206) ?_
                        refine ops_set 241 (v := .bool true) (eq_bool_of (by kernel_rfl) h206) ?_
                        refine ops_run 3 (by kernel_rfl) ?_
                        refine ops_done (by kernel_rfl) ?_
                        have hs207 := St.f9 hs133
                        have hs208 := St.f9 hs207
                        have hs209 := St.f9 hs208
                        have hs210 := St.f9 hs209
                        have hs211 := St.f9 hs210
                        have hs212 := St.f6 hs211
                        have hs213 := St.f9 hs212
                        have hs214 := St.f9 hs213
                        have hs215 := St.f8 hs214
                        have hs216 := St.f9 hs215
                        exact ⟨(decide (p107 = 0)), slots_intro _ (by kernel_rfl), hs216, hm⟩
                      ·
                        have h206p : ¬ (((ss.getD p69.toNat dSt7).c0).tmod 4 = 1) := of_decide_eq_false h206
                        replace hm := ite_no hm h206p
                        refine ops_set 242 (v := .bool false) (eq_bool_of (by kernel_rfl) h206) ?_
                        refine ops_set 241 (v := .bool false) (eq_bool_of (by kernel_rfl) h206) ?_
                        refine ops_run 3 (by kernel_rfl) ?_
                        refine ops_done (by kernel_rfl) ?_
                        have hs217 := St.f9 hs133
                        have hs218 := St.f9 hs217
                        have hs219 := St.f9 hs218
                        have hs220 := St.f9 hs219
                        have hs221 := St.f9 hs220
                        have hs222 := St.f6 hs221
                        have hs223 := St.f9 hs222
                        have hs224 := St.f9 hs223
                        have hs225 := St.f8 hs224
                        have hs226 := St.f9 hs225
                        exact ⟨false, slots_intro _ (by kernel_rfl), hs226, hm⟩
                ·
                  have h119p : ¬ (r111.2 = p104) := of_decide_eq_false (bnot_true h119)
                  replace hm := ite_no hm h119p
                  refine ops_set 227 (v := .bool true) (eq_bool_of (by kernel_rfl) h119) ?_
                  refine ops_set 225 (v := .bool true) (eq_bool_of (by kernel_rfl) h119) ?_
                  refine ops_set 226 (v := .bool true) (eq_bool_of (by kernel_rfl) h119) ?_
                  refine ops_run 5 (by kernel_rfl) ?_
                  refine ops_done (by kernel_rfl) ?_
                  refine hK117 _ _ ?_
                  clear hK117
                  refine W.cond_true true (by kernel_rfl) rfl ?_
                  refine W.seq fun K227 hK227 => ?_
                  refine W.region ?_
                  refine ops_run 1 (by kernel_rfl) ?_
                  refine ops_done (by kernel_rfl) ?_
                  refine hK227 _ _ ?_
                  clear hK227
                  refine W.ret (ret_seq (ret_block (ret_seq (ret_seq (ret_block (ret_seq ?_))))))
                  have hs228 := St.tk0 hs115
                  refine ret_of (.bool false) (by kernel_rfl) ⟨_, ⟨congrArg Value.bool (some_inj hm), rfl⟩, hs228⟩
              ·
                have h118p : ¬ (r111.1 = p103) := of_decide_eq_false (bnot_true h118)
                replace hm := ite_no hm h118p
                refine ops_set 222 (v := .bool true) (eq_bool_of (by kernel_rfl) h118) ?_
                refine ops_set 221 (v := .bool true) (eq_bool_of (by kernel_rfl) h118) ?_
                refine ops_run 10 (by kernel_rfl) ?_
                refine ops_done (by kernel_rfl) ?_
                refine hK117 _ _ ?_
                clear hK117
                refine W.cond_true true (by kernel_rfl) rfl ?_
                refine W.seq fun K229 hK229 => ?_
                refine W.region ?_
                refine ops_run 1 (by kernel_rfl) ?_
                refine ops_done (by kernel_rfl) ?_
                refine hK229 _ _ ?_
                clear hK229
                refine W.ret (ret_seq (ret_block (ret_seq (ret_seq (ret_block (ret_seq ?_))))))
                have hs230 := St.tk0 hs115
                refine ret_of (.bool false) (by kernel_rfl) ⟨_, ⟨congrArg Value.bool (some_inj hm), rfl⟩, hs230⟩
            ·
              refine W.seq fun K231 hK231 => ?_
              refine W.region ?_
              refine ops_run 2 (by kernel_rfl) ?_
              obtain ⟨h233, hm⟩ := need_some hm
              have hk232 := lt_toNat h233
              refine ops_R (runs_index (a := sa) (n := ss.length) (z := p69) (size := 3) p69.toNat (nat_of h233.1) hk232 (kSt7.addr (hs96.oldCells hst) hk232) (by kernel_rfl)) ?_
              refine ops_run 1 (by kernel_rfl) ?_
              refine ops_R (runs_load (ad := ((adr sa (p69.toNat * 3)).add 0)) (v := (.int .u8 ((ss.getD p69.toNat dSt7).c0))) (by kernel_rfl) (kSt7.at (hs96.oldCells hst) hk232 dSt7 0 rfl)) ?_
              refine ops_run 1 (by kernel_rfl) ?_
              refine ops_done (by kernel_rfl) ?_
              refine hK231 _ _ ?_
              clear hK231
              refine W.block ?_
              refine W.seq fun K234 hK234 => ?_
              refine W.region ?_
              refine ops_run 2 (by kernel_rfl) ?_
              refine ops_done (by kernel_rfl) ?_
              refine hK234 _ _ ?_
              clear hK234
              refine W.cond (decide (((ss.getD p69.toNat dSt7).c0).tmod 4 = 0)) (by kernel_rfl) (fun h235 => ?_) (fun h235 => ?_)
              ·
                have h235p : ((ss.getD p69.toNat dSt7).c0).tmod 4 = 0 := of_decide_eq_true h235
                replace hm := ite_yes hm h235p
                refine W.seq fun K236 hK236 => ?_
                refine W.region ?_
                refine ops_run 1 (by kernel_rfl) ?_
                obtain ⟨r237, h238, hm⟩ := bind_some hm
                have hs239 := St.f3 hs96
                have hs240 := St.f3 hs239
                have hs241 := St.f3 hs240
                have hs242 := St.f3 hs241
                refine ops_call4 hs242 (by kernel_rfl) (atakei_walk (ab := b91) (ib := b92) (bb := b93) (vb := b83) (img := q63) (l := []) (gw := 1) (gi := (2 + i_.tmod 20)) (gb := (2 + b_.tmod 40)) (ia := (placeOf 6 1 (2 + i_.tmod 20) (2 + b_.tmod 40) 0)) (ba := (placeOf 7 1 (2 + i_.tmod 20) (2 + b_.tmod 40) 0)) (hG := hG) (hT := (hs96.oldCells hT)) (hm := h238) B _) ?_
                rintro _ _ w243 ⟨rfl, rfl⟩ hs244
                have hs245 := St.ap4 hs244
                refine ops_run 5 (by kernel_rfl) ?_
                refine ops_done (by kernel_rfl) ?_
                refine hK236 _ _ ?_
                clear hK236
                refine W.seq_join (fun s_ w_ => (∃ us, s_ = slots 278 [(2, (.slice sa ss.length sc)), (7, (.pointer (some ⟨b19, 0, none⟩))), (9, (.pointer (some ⟨b48, 0, none⟩))), (10, (.pointer (some ⟨b54, 0, none⟩))), (11, (.int .i64 p67)), (12, (.int .i64 p68)), (13, (.int .i64 p69)), (14, (.pointer (some ⟨b83, 0, none⟩))), (15, (.pointer (some ⟨b91, 0, none⟩))), (17, (.int .i64 r237.1)), (18, (.int .i64 r237.2.1))] us) ∧ St B w [] w_ [blk b19 (.cells [(.int .i64 1), (.int .i64 (2 + i_.tmod 20)), (.int .i64 (2 + b_.tmod 40))].toArray 63 (0, 0)), blk b48 (.cells (kBool.cells q65).toArray 134 (0, 0)), blk b54 (.cells (kBool.cells q66).toArray 134 (0, 0)), viewA (ptr b83) q63 r237.2.2, blk b92 (.cells [(.pointer (some ⟨b83, 0, none⟩)), (.int .i64 (placeOf 6 1 (2 + i_.tmod 20) (2 + b_.tmod 40) 0)), (.int .i64 (2 + i_.tmod 20))].toArray 151 (0, 0)), blk b93 (.cells [(.pointer (some ⟨b83, 0, none⟩)), (.int .i64 (placeOf 7 1 (2 + i_.tmod 20) (2 + b_.tmod 40) 0)), (.int .i64 (2 + b_.tmod 40))].toArray 151 (0, 0)), blk b91 (.cells [(.pointer (some ⟨b83, 0, none⟩)), (.int .i64 1), (.int .i64 (2 + i_.tmod 20)), (.int .i64 (2 + b_.tmod 40)), (.pointer (some ⟨b92, 0, none⟩)), (.int .i64 (2 + i_.tmod 20)), (.pointer (some ⟨b93, 0, none⟩)), (.int .i64 (2 + b_.tmod 40))].toArray 188 (0, 0)), kU64.row m61 m62 q63] ∧ alloconce_J5 i_ b_ ss k70 q63 q65 q66 p67 p68 p69 r237 = some true) ?_ ?_
                ·
                  rintro _ w246 ⟨⟨us, rfl⟩, hs247, hm⟩
                  unfold alloconce_J5 at hm
                  refine W.seq fun K248 hK248 => ?_
                  refine W.region ?_
                  refine ops_run 2 (by kernel_rfl) ?_
                  refine ops_done (by kernel_rfl) ?_
                  refine hK248 _ _ ?_
                  clear hK248
                  refine W.cond (decide (r237.2.1 = 0)) (by kernel_rfl) (fun h249 => ?_) (fun h249 => ?_)
                  ·
                    have h249p : r237.2.1 = 0 := of_decide_eq_true h249
                    replace hm := ite_yes hm h249p
                    refine W.seq fun K250 hK250 => ?_
                    refine W.region ?_
                    refine ops_run 1 (by kernel_rfl) ?_
                    obtain ⟨h253, hm⟩ := need_some hm
                    have hk251 : r237.1.toNat < 64 := by omega
                    obtain ⟨h254, hm⟩ := need_some hm
                    have hl252 : r237.1.toNat < q65.length := by omega
                    refine ops_R (v := .pointer (some (adr (some ⟨b48, 0, none⟩) (r237.1.toNat * 1)))) (runs_indexA (ad := ⟨b48, 0, none⟩) (n := 64) (z := r237.1) (size := 1) r237.1.toNat (nat_of h253.1) hk251 (by kernel_rfl)) ?_
                    have hs257 := St.f1 hs247
                    refine ops_storeArr kBool (j := 0) (vs := [(.bool true)]) false true hs257 hl252 (Nat.le_of_ble_eq_true rfl) rfl rfl (by kernel_rfl) (fun w255 hs256 => ?_)
                    refine ops_done (by kernel_rfl) ?_
                    refine hK250 _ _ ?_
                    clear hK250
                    refine W.region ?_
                    refine ops_run 1 (by kernel_rfl) ?_
                    obtain ⟨h258, hm⟩ := need_some hm
                    refine ops_val (v := .int .i64 (IntKind.i64.wrap (p67 - 1))) (v' := .int .i64 (p67 - 1)) (by kernel_rfl) (congrArg (Value.int .i64) (wrap_i64 h258.1 h258.2)) ?_
                    refine ops_run 1 (by kernel_rfl) ?_
                    refine ops_done (by kernel_rfl) ?_
                    refine normal_block ?_
                    have hs259 := St.f7 hs256
                    have hs260 := St.f7 hs259
                    have hs261 := St.f7 hs260
                    have hs262 := St.f7 hs261
                    have hs263 := St.f7 hs262
                    have hs264 := St.f7 hs263
                    have hs265 := St.f6 hs264
                    have hs266 := St.f7 hs265
                    exact ⟨(q65.set r237.1.toNat true), q66, (p67 - 1), p68, r237.2.2, r237.1, r237.2.1, slots_intro _ (by kernel_rfl), hs266, hm⟩
                  ·
                    have h249p : ¬ (r237.2.1 = 0) := of_decide_eq_false h249
                    replace hm := ite_no hm h249p
                    refine W.skip ?_
                    refine normal_block ?_
                    exact ⟨q65, q66, p67, p68, r237.2.2, r237.1, r237.2.1, slots_intro _ (by kernel_rfl), hs247, hm⟩
                ·
                  refine W.seq fun K267 hK267 => ?_
                  refine W.region ?_
                  refine ops_run 6 (by kernel_rfl) ?_
                  rcases Bool.eq_false_or_eq_true (!((decide (r237.2.1 = 7)) == (decide (p67 = 0)))) with h268 | h268
                  rotate_left
                  ·
                    have h268p : ((r237.2.1 = 7) ↔ (p67 = 0)) := beq_yes decide_eq_true_iff decide_eq_true_iff (bnot_false h268)
                    replace hm := ite_yes hm h268p
                    refine ops_set 120 (v := .bool false) (eq_bool_of (by kernel_rfl) h268) ?_
                    refine ops_set 119 (v := .bool false) (eq_bool_of (by kernel_rfl) h268) ?_
                    refine ops_run 3 (by kernel_rfl) ?_
                    rcases Bool.eq_false_or_eq_true (decide (r237.2.1 = 0)) with h269 | h269
                    ·
                      have h269p : r237.2.1 = 0 := of_decide_eq_true h269
                      replace hm := ite_yes hm h269p
                      refine ops_set 123 (v := .bool true) (eq_bool_of (by kernel_rfl) h269) ?_
                      refine ops_set 122 (v := .bool true) (eq_bool_of (by kernel_rfl) h269) ?_
                      refine ops_run 3 (by kernel_rfl) ?_
                      rcases Bool.eq_false_or_eq_true (decide (r237.1 < 2)) with h270 | h270
                      ·
                        have h270p : r237.1 < 2 := of_decide_eq_true h270
                        replace hm := ite_yes hm h270p
                        refine ops_set 126 (v := .bool true) (eq_bool_of (by kernel_rfl) h270) ?_
                        refine ops_set 125 (v := .bool true) (eq_bool_of (by kernel_rfl) h270) ?_
                        refine ops_run 12 (by kernel_rfl) ?_
                        refine ops_done (by kernel_rfl) ?_
                        refine hK267 _ _ ?_
                        clear hK267
                        refine W.cond_true true (by kernel_rfl) rfl ?_
                        refine W.seq fun K271 hK271 => ?_
                        refine W.region ?_
                        refine ops_run 1 (by kernel_rfl) ?_
                        refine ops_done (by kernel_rfl) ?_
                        refine hK271 _ _ ?_
                        clear hK271
                        refine W.ret (ret_seq (ret_block (ret_seq (ret_block (ret_seq (ret_seq (ret_block (ret_seq ?_))))))))
                        have hs272 := St.tk0 hs245
                        refine ret_of (.bool false) (by kernel_rfl) ⟨_, ⟨congrArg Value.bool (some_inj hm), rfl⟩, hs272⟩
                      ·
                        have h270p : ¬ (r237.1 < 2) := of_decide_eq_false h270
                        replace hm := ite_no hm h270p
                        refine ops_set 126 (v := .bool false) (eq_bool_of (by kernel_rfl) h270) ?_
                        refine ops_set 125 (v := .bool false) (eq_bool_of (by kernel_rfl) h270) ?_
                        refine ops_run 2 (by kernel_rfl) ?_
                        refine ops_R (runs_load (ad := ⟨b19, 1, none⟩) (v := (.int .i64 (2 + i_.tmod 20))) (by kernel_rfl) (hs245.cellAt 4 rfl rfl)) ?_
                        refine ops_run 3 (by kernel_rfl) ?_
                        rcases Bool.eq_false_or_eq_true (decide (r237.1 ≥ (2 + i_.tmod 20))) with h273 | h273
                        ·
                          have h273p : r237.1 ≥ (2 + i_.tmod 20) := of_decide_eq_true h273
                          replace hm := ite_yes hm h273p
                          refine ops_set 132 (v := .bool true) (eq_bool_of (by kernel_rfl) h273) ?_
                          refine ops_set 130 (v := .bool true) (eq_bool_of (by kernel_rfl) h273) ?_
                          refine ops_set 131 (v := .bool true) (eq_bool_of (by kernel_rfl) h273) ?_
                          refine ops_run 6 (by kernel_rfl) ?_
                          refine ops_done (by kernel_rfl) ?_
                          refine hK267 _ _ ?_
                          clear hK267
                          refine W.cond_true true (by kernel_rfl) rfl ?_
                          refine W.seq fun K274 hK274 => ?_
                          refine W.region ?_
                          refine ops_run 1 (by kernel_rfl) ?_
                          refine ops_done (by kernel_rfl) ?_
                          refine hK274 _ _ ?_
                          clear hK274
                          refine W.ret (ret_seq (ret_block (ret_seq (ret_block (ret_seq (ret_seq (ret_block (ret_seq ?_))))))))
                          have hs275 := St.tk0 hs245
                          refine ret_of (.bool false) (by kernel_rfl) ⟨_, ⟨congrArg Value.bool (some_inj hm), rfl⟩, hs275⟩
                        ·
                          have h273p : ¬ (r237.1 ≥ (2 + i_.tmod 20)) := of_decide_eq_false h273
                          replace hm := ite_no hm h273p
                          refine ops_set 132 (v := .bool false) (eq_bool_of (by kernel_rfl) h273) ?_
                          refine ops_set 130 (v := .bool false) (eq_bool_of (by kernel_rfl) h273) ?_
                          refine ops_set 131 (v := .bool false) (eq_bool_of (by kernel_rfl) h273) ?_
                          refine ops_run 1 (by kernel_rfl) ?_
                          obtain ⟨h278, hm⟩ := need_some hm
                          have hk276 : r237.1.toNat < 64 := by omega
                          obtain ⟨h279, hm⟩ := need_some hm
                          have hl277 : r237.1.toNat < q65.length := by omega
                          refine ops_R (v := .pointer (some (adr (some ⟨b48, 0, none⟩) (r237.1.toNat * 1)))) (runs_indexA (ad := ⟨b48, 0, none⟩) (n := 64) (z := r237.1) (size := 1) r237.1.toNat (nat_of h278.1) hk276 (by kernel_rfl)) ?_
                          refine ops_R (runs_load (ad := ((adr (some ⟨b48, 0, none⟩) (r237.1.toNat * 1)).add 0)) (v := (.bool (q65.getD r237.1.toNat false))) (by kernel_rfl) (kBool.at (cells_blk (hs245.heapAt 6 rfl)) hl277 false 0 rfl)) ?_
                          refine ops_run 3 (by kernel_rfl) ?_
                          refine ops_done (by kernel_rfl) ?_
                          refine hK267 _ _ ?_
                          clear hK267
                          refine W.cond (q65.getD r237.1.toNat false) (by kernel_rfl) (fun h280 => ?_) (fun h280 => ?_)
                          ·
                            have h280p : (q65.getD r237.1.toNat false) = true := h280
                            replace hm := ite_yes hm h280p
                            refine W.seq fun K281 hK281 => ?_
                            refine W.region ?_
                            refine ops_run 1 (by kernel_rfl) ?_
                            refine ops_done (by kernel_rfl) ?_
                            refine hK281 _ _ ?_
                            clear hK281
                            refine W.ret (ret_seq (ret_block (ret_seq (ret_block (ret_seq (ret_seq (ret_block (ret_seq ?_))))))))
                            have hs282 := St.tk0 hs245
                            refine ret_of (.bool false) (by kernel_rfl) ⟨_, ⟨congrArg Value.bool (some_inj hm), rfl⟩, hs282⟩
                          ·
                            have h280p : ¬ ((q65.getD r237.1.toNat false) = true) := ne_true_of_eq_false h280
                            replace hm := ite_no hm h280p
                            refine W.skip ?_
                            have hs283 := St.f5 hs245
                            have hs284 := St.f1 hs283
                            have hs285 := St.f3 hs284
                            have hs286 := St.f3 hs285
                            have hs287 := St.f4 hs286
                            have hs288 := St.f7 hs287
                            have hs289 := St.f7 hs288
                            have hs290 := St.f7 hs289
                            exact ⟨slots_intro _ (by kernel_rfl), hs290, hm⟩
                    ·
                      have h269p : ¬ (r237.2.1 = 0) := of_decide_eq_false h269
                      replace hm := ite_no hm h269p
                      refine ops_set 123 (v := .bool false) (eq_bool_of (by kernel_rfl) h269) ?_
                      refine ops_set 122 (v := .bool false) (eq_bool_of (by kernel_rfl) h269) ?_
                      refine ops_run 15 (by kernel_rfl) ?_
                      refine ops_done (by kernel_rfl) ?_
                      refine hK267 _ _ ?_
                      clear hK267
                      refine W.cond_false false (by kernel_rfl) rfl ?_
                      refine W.skip ?_
                      have hs291 := St.f5 hs245
                      have hs292 := St.f1 hs291
                      have hs293 := St.f3 hs292
                      have hs294 := St.f3 hs293
                      have hs295 := St.f4 hs294
                      have hs296 := St.f7 hs295
                      have hs297 := St.f7 hs296
                      have hs298 := St.f7 hs297
                      exact ⟨slots_intro _ (by kernel_rfl), hs298, hm⟩
                  ·
                    have h268p : ¬ ((r237.2.1 = 7) ↔ (p67 = 0)) := beq_no decide_eq_true_iff decide_eq_true_iff (bnot_true h268)
                    replace hm := ite_no hm h268p
                    refine ops_set 120 (v := .bool true) (eq_bool_of (by kernel_rfl) h268) ?_
                    refine ops_set 119 (v := .bool true) (eq_bool_of (by kernel_rfl) h268) ?_
                    refine ops_run 18 (by kernel_rfl) ?_
                    refine ops_done (by kernel_rfl) ?_
                    refine hK267 _ _ ?_
                    clear hK267
                    refine W.cond_true true (by kernel_rfl) rfl ?_
                    refine W.seq fun K299 hK299 => ?_
                    refine W.region ?_
                    refine ops_run 1 (by kernel_rfl) ?_
                    refine ops_done (by kernel_rfl) ?_
                    refine hK299 _ _ ?_
                    clear hK299
                    refine W.ret (ret_seq (ret_block (ret_seq (ret_block (ret_seq (ret_seq (ret_block (ret_seq ?_))))))))
                    have hs300 := St.tk0 hs245
                    refine ret_of (.bool false) (by kernel_rfl) ⟨_, ⟨congrArg Value.bool (some_inj hm), rfl⟩, hs300⟩
              ·
                have h235p : ¬ (((ss.getD p69.toNat dSt7).c0).tmod 4 = 0) := of_decide_eq_false h235
                replace hm := ite_no hm h235p
                refine W.seq fun K301 hK301 => ?_
                refine W.region ?_
                refine ops_run 2 (by kernel_rfl) ?_
                refine ops_done (by kernel_rfl) ?_
                refine hK301 _ _ ?_
                clear hK301
                refine W.cond (decide (((ss.getD p69.toNat dSt7).c0).tmod 4 = 1)) (by kernel_rfl) (fun h302 => ?_) (fun h302 => ?_)
                ·
                  have h302p : ((ss.getD p69.toNat dSt7).c0).tmod 4 = 1 := of_decide_eq_true h302
                  replace hm := ite_yes hm h302p
                  refine W.seq fun K303 hK303 => ?_
                  refine W.region ?_
                  refine ops_run 1 (by kernel_rfl) ?_
                  obtain ⟨r304, h305, hm⟩ := bind_some hm
                  have hs306 := St.f3 hs96
                  have hs307 := St.f3 hs306
                  have hs308 := St.f3 hs307
                  have hs309 := St.f3 hs308
                  refine ops_call4 hs309 (by kernel_rfl) (atakeb_walk (ab := b91) (ib := b92) (bb := b93) (vb := b83) (img := q63) (l := []) (gw := 1) (gi := (2 + i_.tmod 20)) (gb := (2 + b_.tmod 40)) (ia := (placeOf 6 1 (2 + i_.tmod 20) (2 + b_.tmod 40) 0)) (ba := (placeOf 7 1 (2 + i_.tmod 20) (2 + b_.tmod 40) 0)) (hG := hG) (hT := (hs96.oldCells hT)) (hm := h305) B _) ?_
                  rintro _ _ w310 ⟨rfl, rfl⟩ hs311
                  have hs312 := St.ap4 hs311
                  refine ops_run 5 (by kernel_rfl) ?_
                  refine ops_done (by kernel_rfl) ?_
                  refine hK303 _ _ ?_
                  clear hK303
                  refine W.seq_join (fun s_ w_ => (∃ us, s_ = slots 278 [(2, (.slice sa ss.length sc)), (7, (.pointer (some ⟨b19, 0, none⟩))), (9, (.pointer (some ⟨b48, 0, none⟩))), (10, (.pointer (some ⟨b54, 0, none⟩))), (11, (.int .i64 p67)), (12, (.int .i64 p68)), (13, (.int .i64 p69)), (14, (.pointer (some ⟨b83, 0, none⟩))), (15, (.pointer (some ⟨b91, 0, none⟩))), (17, (.int .i64 r304.1)), (18, (.int .i64 r304.2.1))] us) ∧ St B w [] w_ [blk b19 (.cells [(.int .i64 1), (.int .i64 (2 + i_.tmod 20)), (.int .i64 (2 + b_.tmod 40))].toArray 63 (0, 0)), blk b48 (.cells (kBool.cells q65).toArray 134 (0, 0)), blk b54 (.cells (kBool.cells q66).toArray 134 (0, 0)), viewA (ptr b83) q63 r304.2.2, blk b92 (.cells [(.pointer (some ⟨b83, 0, none⟩)), (.int .i64 (placeOf 6 1 (2 + i_.tmod 20) (2 + b_.tmod 40) 0)), (.int .i64 (2 + i_.tmod 20))].toArray 151 (0, 0)), blk b93 (.cells [(.pointer (some ⟨b83, 0, none⟩)), (.int .i64 (placeOf 7 1 (2 + i_.tmod 20) (2 + b_.tmod 40) 0)), (.int .i64 (2 + b_.tmod 40))].toArray 151 (0, 0)), blk b91 (.cells [(.pointer (some ⟨b83, 0, none⟩)), (.int .i64 1), (.int .i64 (2 + i_.tmod 20)), (.int .i64 (2 + b_.tmod 40)), (.pointer (some ⟨b92, 0, none⟩)), (.int .i64 (2 + i_.tmod 20)), (.pointer (some ⟨b93, 0, none⟩)), (.int .i64 (2 + b_.tmod 40))].toArray 188 (0, 0)), kU64.row m61 m62 q63] ∧ alloconce_J6 i_ b_ ss k70 q63 q65 q66 p67 p68 p69 r304 = some true) ?_ ?_
                  ·
                    rintro _ w313 ⟨⟨us, rfl⟩, hs314, hm⟩
                    unfold alloconce_J6 at hm
                    refine W.seq fun K315 hK315 => ?_
                    refine W.region ?_
                    refine ops_run 2 (by kernel_rfl) ?_
                    refine ops_done (by kernel_rfl) ?_
                    refine hK315 _ _ ?_
                    clear hK315
                    refine W.cond (decide (r304.2.1 = 0)) (by kernel_rfl) (fun h316 => ?_) (fun h316 => ?_)
                    ·
                      have h316p : r304.2.1 = 0 := of_decide_eq_true h316
                      replace hm := ite_yes hm h316p
                      refine W.seq fun K317 hK317 => ?_
                      refine W.region ?_
                      refine ops_run 1 (by kernel_rfl) ?_
                      obtain ⟨h320, hm⟩ := need_some hm
                      have hk318 : r304.1.toNat < 64 := by omega
                      obtain ⟨h321, hm⟩ := need_some hm
                      have hl319 : r304.1.toNat < q66.length := by omega
                      refine ops_R (v := .pointer (some (adr (some ⟨b54, 0, none⟩) (r304.1.toNat * 1)))) (runs_indexA (ad := ⟨b54, 0, none⟩) (n := 64) (z := r304.1) (size := 1) r304.1.toNat (nat_of h320.1) hk318 (by kernel_rfl)) ?_
                      have hs324 := St.f2 hs314
                      refine ops_storeArr kBool (j := 0) (vs := [(.bool true)]) false true hs324 hl319 (Nat.le_of_ble_eq_true rfl) rfl rfl (by kernel_rfl) (fun w322 hs323 => ?_)
                      refine ops_done (by kernel_rfl) ?_
                      refine hK317 _ _ ?_
                      clear hK317
                      refine W.region ?_
                      refine ops_run 1 (by kernel_rfl) ?_
                      obtain ⟨h325, hm⟩ := need_some hm
                      refine ops_val (v := .int .i64 (IntKind.i64.wrap (p68 - 1))) (v' := .int .i64 (p68 - 1)) (by kernel_rfl) (congrArg (Value.int .i64) (wrap_i64 h325.1 h325.2)) ?_
                      refine ops_run 1 (by kernel_rfl) ?_
                      refine ops_done (by kernel_rfl) ?_
                      refine normal_block ?_
                      have hs326 := St.f7 hs323
                      have hs327 := St.f7 hs326
                      have hs328 := St.f7 hs327
                      have hs329 := St.f7 hs328
                      have hs330 := St.f7 hs329
                      have hs331 := St.f5 hs330
                      have hs332 := St.f7 hs331
                      have hs333 := St.f7 hs332
                      exact ⟨q65, (q66.set r304.1.toNat true), p67, (p68 - 1), r304.2.2, r304.1, r304.2.1, slots_intro _ (by kernel_rfl), hs333, hm⟩
                    ·
                      have h316p : ¬ (r304.2.1 = 0) := of_decide_eq_false h316
                      replace hm := ite_no hm h316p
                      refine W.skip ?_
                      refine normal_block ?_
                      exact ⟨q65, q66, p67, p68, r304.2.2, r304.1, r304.2.1, slots_intro _ (by kernel_rfl), hs314, hm⟩
                  ·
                    refine W.seq fun K334 hK334 => ?_
                    refine W.region ?_
                    refine ops_run 6 (by kernel_rfl) ?_
                    rcases Bool.eq_false_or_eq_true (!((decide (r304.2.1 = 7)) == (decide (p68 = 0)))) with h335 | h335
                    rotate_left
                    ·
                      have h335p : ((r304.2.1 = 7) ↔ (p68 = 0)) := beq_yes decide_eq_true_iff decide_eq_true_iff (bnot_false h335)
                      replace hm := ite_yes hm h335p
                      refine ops_set 157 (v := .bool false) (eq_bool_of (by kernel_rfl) h335) ?_
                      refine ops_set 156 (v := .bool false) (eq_bool_of (by kernel_rfl) h335) ?_
                      refine ops_run 3 (by kernel_rfl) ?_
                      rcases Bool.eq_false_or_eq_true (decide (r304.2.1 = 0)) with h336 | h336
                      ·
                        have h336p : r304.2.1 = 0 := of_decide_eq_true h336
                        replace hm := ite_yes hm h336p
                        refine ops_set 160 (v := .bool true) (eq_bool_of (by kernel_rfl) h336) ?_
                        refine ops_set 159 (v := .bool true) (eq_bool_of (by kernel_rfl) h336) ?_
                        refine ops_run 3 (by kernel_rfl) ?_
                        rcases Bool.eq_false_or_eq_true (decide (r304.1 < 1)) with h337 | h337
                        ·
                          have h337p : r304.1 < 1 := of_decide_eq_true h337
                          replace hm := ite_yes hm h337p
                          refine ops_set 163 (v := .bool true) (eq_bool_of (by kernel_rfl) h337) ?_
                          refine ops_set 162 (v := .bool true) (eq_bool_of (by kernel_rfl) h337) ?_
                          refine ops_run 18 (by kernel_rfl) ?_
                          refine ops_done (by kernel_rfl) ?_
                          refine hK334 _ _ ?_
                          clear hK334
                          refine W.cond_true true (by kernel_rfl) rfl ?_
                          refine W.seq fun K338 hK338 => ?_
                          refine W.region ?_
                          refine ops_run 1 (by kernel_rfl) ?_
                          refine ops_done (by kernel_rfl) ?_
                          refine hK338 _ _ ?_
                          clear hK338
                          refine W.ret (ret_seq (ret_block (ret_seq (ret_block (ret_seq (ret_seq (ret_block (ret_seq ?_))))))))
                          have hs339 := St.tk0 hs312
                          refine ret_of (.bool false) (by kernel_rfl) ⟨_, ⟨congrArg Value.bool (some_inj hm), rfl⟩, hs339⟩
                        ·
                          have h337p : ¬ (r304.1 < 1) := of_decide_eq_false h337
                          replace hm := ite_no hm h337p
                          refine ops_set 163 (v := .bool false) (eq_bool_of (by kernel_rfl) h337) ?_
                          refine ops_set 162 (v := .bool false) (eq_bool_of (by kernel_rfl) h337) ?_
                          refine ops_run 2 (by kernel_rfl) ?_
                          refine ops_R (runs_load (ad := ⟨b19, 2, none⟩) (v := (.int .i64 (2 + b_.tmod 40))) (by kernel_rfl) (hs312.cellAt 4 rfl rfl)) ?_
                          refine ops_run 3 (by kernel_rfl) ?_
                          rcases Bool.eq_false_or_eq_true (decide (r304.1 ≥ (2 + b_.tmod 40))) with h340 | h340
                          ·
                            have h340p : r304.1 ≥ (2 + b_.tmod 40) := of_decide_eq_true h340
                            replace hm := ite_yes hm h340p
                            refine ops_set 169 (v := .bool true) (eq_bool_of (by kernel_rfl) h340) ?_
                            refine ops_set 167 (v := .bool true) (eq_bool_of (by kernel_rfl) h340) ?_
                            refine ops_set 168 (v := .bool true) (eq_bool_of (by kernel_rfl) h340) ?_
                            refine ops_run 12 (by kernel_rfl) ?_
                            refine ops_done (by kernel_rfl) ?_
                            refine hK334 _ _ ?_
                            clear hK334
                            refine W.cond_true true (by kernel_rfl) rfl ?_
                            refine W.seq fun K341 hK341 => ?_
                            refine W.region ?_
                            refine ops_run 1 (by kernel_rfl) ?_
                            refine ops_done (by kernel_rfl) ?_
                            refine hK341 _ _ ?_
                            clear hK341
                            refine W.ret (ret_seq (ret_block (ret_seq (ret_block (ret_seq (ret_seq (ret_block (ret_seq ?_))))))))
                            have hs342 := St.tk0 hs312
                            refine ret_of (.bool false) (by kernel_rfl) ⟨_, ⟨congrArg Value.bool (some_inj hm), rfl⟩, hs342⟩
                          ·
                            have h340p : ¬ (r304.1 ≥ (2 + b_.tmod 40)) := of_decide_eq_false h340
                            replace hm := ite_no hm h340p
                            refine ops_set 169 (v := .bool false) (eq_bool_of (by kernel_rfl) h340) ?_
                            refine ops_set 167 (v := .bool false) (eq_bool_of (by kernel_rfl) h340) ?_
                            refine ops_set 168 (v := .bool false) (eq_bool_of (by kernel_rfl) h340) ?_
                            refine ops_run 1 (by kernel_rfl) ?_
                            obtain ⟨h345, hm⟩ := need_some hm
                            have hk343 : r304.1.toNat < 64 := by omega
                            obtain ⟨h346, hm⟩ := need_some hm
                            have hl344 : r304.1.toNat < q66.length := by omega
                            refine ops_R (v := .pointer (some (adr (some ⟨b54, 0, none⟩) (r304.1.toNat * 1)))) (runs_indexA (ad := ⟨b54, 0, none⟩) (n := 64) (z := r304.1) (size := 1) r304.1.toNat (nat_of h345.1) hk343 (by kernel_rfl)) ?_
                            refine ops_R (runs_load (ad := ((adr (some ⟨b54, 0, none⟩) (r304.1.toNat * 1)).add 0)) (v := (.bool (q66.getD r304.1.toNat false))) (by kernel_rfl) (kBool.at (cells_blk (hs312.heapAt 7 rfl)) hl344 false 0 rfl)) ?_
                            refine ops_run 2 (by kernel_rfl) ?_
                            rcases Bool.eq_false_or_eq_true (q66.getD r304.1.toNat false) with h347 | h347
                            ·
                              have h347p : (q66.getD r304.1.toNat false) = true := h347
                              replace hm := ite_yes hm h347p
                              refine ops_set 174 (v := .bool true) (eq_bool_of (by kernel_rfl) h347) ?_
                              refine ops_set 172 (v := .bool true) (eq_bool_of (by kernel_rfl) h347) ?_
                              refine ops_set 173 (v := .bool true) (eq_bool_of (by kernel_rfl) h347) ?_
                              refine ops_run 7 (by kernel_rfl) ?_
                              refine ops_done (by kernel_rfl) ?_
                              refine hK334 _ _ ?_
                              clear hK334
                              refine W.cond_true true (by kernel_rfl) rfl ?_
                              refine W.seq fun K348 hK348 => ?_
                              refine W.region ?_
                              refine ops_run 1 (by kernel_rfl) ?_
                              refine ops_done (by kernel_rfl) ?_
                              refine hK348 _ _ ?_
                              clear hK348
                              refine W.ret (ret_seq (ret_block (ret_seq (ret_block (ret_seq (ret_seq (ret_block (ret_seq ?_))))))))
                              have hs349 := St.tk0 hs312
                              refine ret_of (.bool false) (by kernel_rfl) ⟨_, ⟨congrArg Value.bool (some_inj hm), rfl⟩, hs349⟩
                            ·
                              have h347p : ¬ ((q66.getD r304.1.toNat false) = true) := ne_true_of_eq_false h347
                              replace hm := ite_no hm h347p
                              refine ops_set 174 (v := .bool false) (eq_bool_of (by kernel_rfl) h347) ?_
                              refine ops_set 172 (v := .bool false) (eq_bool_of (by kernel_rfl) h347) ?_
                              refine ops_set 173 (v := .bool false) (eq_bool_of (by kernel_rfl) h347) ?_
                              refine ops_run 2 (by kernel_rfl) ?_
                              obtain ⟨r350, h351, hm⟩ := bind_some hm
                              refine ops_call0 hs312 (by kernel_rfl) (aused_walk (hab := (hs312.heapAt 0 rfl)) (hib := (hs312.heapAt 1 rfl)) (hbb := (hs312.heapAt 2 rfl)) (hv := (hs312.entAt 3 rfl viewA_at)) (hm := h351) B _) ?_
                              rintro _ _ w352 ⟨rfl, rfl⟩ hs353
                              have hs354 := St.ap0 hs353
                              refine ops_run 4 (by kernel_rfl) ?_
                              refine ops_done (by kernel_rfl) ?_
                              refine hK334 _ _ ?_
                              clear hK334
                              refine W.cond (!r350) (by kernel_rfl) (fun h355 => ?_) (fun h355 => ?_)
                              rotate_left
                              ·
                                have h355p : r350 = true := (bnot_false h355)
                                replace hm := ite_yes hm h355p
                                refine W.skip ?_
                                have hs356 := St.f5 hs354
                                have hs357 := St.f1 hs356
                                have hs358 := St.f3 hs357
                                have hs359 := St.f3 hs358
                                have hs360 := St.f4 hs359
                                have hs361 := St.f7 hs360
                                have hs362 := St.f7 hs361
                                have hs363 := St.f7 hs362
                                exact ⟨slots_intro _ (by kernel_rfl), hs363, hm⟩
                              ·
                                have h355p : ¬ (r350 = true) := ne_true_of_eq_false (bnot_true h355)
                                replace hm := ite_no hm h355p
                                refine W.seq fun K364 hK364 => ?_
                                refine W.region ?_
                                refine ops_run 1 (by kernel_rfl) ?_
                                refine ops_done (by kernel_rfl) ?_
                                refine hK364 _ _ ?_
                                clear hK364
                                refine W.ret (ret_seq (ret_block (ret_seq (ret_block (ret_seq (ret_seq (ret_block (ret_seq ?_))))))))
                                have hs365 := St.tk0 hs354
                                refine ret_of (.bool false) (by kernel_rfl) ⟨_, ⟨congrArg Value.bool (some_inj hm), rfl⟩, hs365⟩
                      ·
                        have h336p : ¬ (r304.2.1 = 0) := of_decide_eq_false h336
                        replace hm := ite_no hm h336p
                        refine ops_set 160 (v := .bool false) (eq_bool_of (by kernel_rfl) h336) ?_
                        refine ops_set 159 (v := .bool false) (eq_bool_of (by kernel_rfl) h336) ?_
                        refine ops_run 21 (by kernel_rfl) ?_
                        refine ops_done (by kernel_rfl) ?_
                        refine hK334 _ _ ?_
                        clear hK334
                        refine W.cond_false false (by kernel_rfl) rfl ?_
                        refine W.skip ?_
                        have hs366 := St.f5 hs312
                        have hs367 := St.f1 hs366
                        have hs368 := St.f3 hs367
                        have hs369 := St.f3 hs368
                        have hs370 := St.f4 hs369
                        have hs371 := St.f7 hs370
                        have hs372 := St.f7 hs371
                        have hs373 := St.f7 hs372
                        exact ⟨slots_intro _ (by kernel_rfl), hs373, hm⟩
                    ·
                      have h335p : ¬ ((r304.2.1 = 7) ↔ (p68 = 0)) := beq_no decide_eq_true_iff decide_eq_true_iff (bnot_true h335)
                      replace hm := ite_no hm h335p
                      refine ops_set 157 (v := .bool true) (eq_bool_of (by kernel_rfl) h335) ?_
                      refine ops_set 156 (v := .bool true) (eq_bool_of (by kernel_rfl) h335) ?_
                      refine ops_run 24 (by kernel_rfl) ?_
                      refine ops_done (by kernel_rfl) ?_
                      refine hK334 _ _ ?_
                      clear hK334
                      refine W.cond_true true (by kernel_rfl) rfl ?_
                      refine W.seq fun K374 hK374 => ?_
                      refine W.region ?_
                      refine ops_run 1 (by kernel_rfl) ?_
                      refine ops_done (by kernel_rfl) ?_
                      refine hK374 _ _ ?_
                      clear hK374
                      refine W.ret (ret_seq (ret_block (ret_seq (ret_block (ret_seq (ret_seq (ret_block (ret_seq ?_))))))))
                      have hs375 := St.tk0 hs312
                      refine ret_of (.bool false) (by kernel_rfl) ⟨_, ⟨congrArg Value.bool (some_inj hm), rfl⟩, hs375⟩
                ·
                  have h302p : ¬ (((ss.getD p69.toNat dSt7).c0).tmod 4 = 1) := of_decide_eq_false h302
                  replace hm := ite_no hm h302p
                  refine W.seq fun K376 hK376 => ?_
                  refine W.region ?_
                  refine ops_run 2 (by kernel_rfl) ?_
                  refine ops_done (by kernel_rfl) ?_
                  refine hK376 _ _ ?_
                  clear hK376
                  refine W.cond (decide (((ss.getD p69.toNat dSt7).c0).tmod 4 = 2)) (by kernel_rfl) (fun h377 => ?_) (fun h377 => ?_)
                  ·
                    have h377p : ((ss.getD p69.toNat dSt7).c0).tmod 4 = 2 := of_decide_eq_true h377
                    replace hm := ite_yes hm h377p
                    refine W.seq fun K378 hK378 => ?_
                    refine W.region ?_
                    refine ops_run 2 (by kernel_rfl) ?_
                    obtain ⟨h380, hm⟩ := need_some hm
                    have hk379 := lt_toNat h380
                    refine ops_R (runs_index (a := sa) (n := ss.length) (z := p69) (size := 3) p69.toNat (nat_of h380.1) hk379 (kSt7.addr (hs96.oldCells hst) hk379) (by kernel_rfl)) ?_
                    refine ops_run 1 (by kernel_rfl) ?_
                    refine ops_R (runs_load (ad := ((adr sa (p69.toNat * 3)).add 1)) (v := (.int .i64 ((ss.getD p69.toNat dSt7).c1))) (by kernel_rfl) (kSt7.at (hs96.oldCells hst) hk379 dSt7 1 rfl)) ?_
                    refine ops_run 2 (by kernel_rfl) ?_
                    obtain ⟨h381, hm⟩ := need_some hm
                    refine ops_val (v := .int .i64 (IntKind.i64.wrap (2 + (mx ((ss.getD p69.toNat dSt7).c1) 0).tmod 40))) (v' := .int .i64 (2 + (mx ((ss.getD p69.toNat dSt7).c1) 0).tmod 40)) (by kernel_rfl) (congrArg (Value.int .i64) (wrap_i64 h381.1 h381.2)) ?_
                    refine ops_run 1 (by kernel_rfl) ?_
                    obtain ⟨r382, h383, hm⟩ := bind_some hm
                    replace h383 := some_inj h383
                    refine ops_set 17 (v := .int .i64 r382) (Eq.trans (by kernel_rfl) (congrArg (Value.int .i64) h383)) ?_
                    refine ops_done (by kernel_rfl) ?_
                    refine hK378 _ _ ?_
                    clear hK378
                    refine W.seq fun K384 hK384 => ?_
                    refine W.region ?_
                    refine ops_run 2 (by kernel_rfl) ?_
                    obtain ⟨r385, h386, hm⟩ := bind_some hm
                    have hs387 := St.f3 hs96
                    have hs388 := St.f3 hs387
                    have hs389 := St.f3 hs388
                    have hs390 := St.f3 hs389
                    refine ops_call4 hs390 (by kernel_rfl) (agivei_walk (ab := b91) (ib := b92) (bb := b93) (vb := b83) (img := q63) (l := []) (gw := 1) (gi := (2 + i_.tmod 20)) (gb := (2 + b_.tmod 40)) (ia := (placeOf 6 1 (2 + i_.tmod 20) (2 + b_.tmod 40) 0)) (ba := (placeOf 7 1 (2 + i_.tmod 20) (2 + b_.tmod 40) 0)) (n_ := r382) (hm := h386) B _) ?_
                    rintro _ _ w391 ⟨rfl, rfl⟩ hs392
                    have hs393 := St.ap4 hs392
                    refine ops_run 1 (by kernel_rfl) ?_
                    refine ops_done (by kernel_rfl) ?_
                    refine hK384 _ _ ?_
                    clear hK384
                    refine W.seq fun K394 hK394 => ?_
                    refine W.seq fun K395 hK395 => ?_
                    refine W.region ?_
                    refine ops_run 3 (by kernel_rfl) ?_
                    obtain ⟨h398, hm⟩ := need_some hm
                    have hk396 : r382.toNat < 64 := by omega
                    obtain ⟨h399, hm⟩ := need_some hm
                    have hl397 : r382.toNat < q65.length := by omega
                    refine ops_R (v := .pointer (some (adr (some ⟨b48, 0, none⟩) (r382.toNat * 1)))) (runs_indexA (ad := ⟨b48, 0, none⟩) (n := 64) (z := r382) (size := 1) r382.toNat (nat_of h398.1) hk396 (by kernel_rfl)) ?_
                    refine ops_R (runs_load (ad := ((adr (some ⟨b48, 0, none⟩) (r382.toNat * 1)).add 0)) (v := (.bool (q65.getD r382.toNat false))) (by kernel_rfl) (kBool.at (cells_blk (hs393.heapAt 6 rfl)) hl397 false 0 rfl)) ?_
                    refine ops_run 1 (by kernel_rfl) ?_
                    refine ops_done (by kernel_rfl) ?_
                    refine hK395 _ _ ?_
                    clear hK395
                    refine W.cond (!((decide (r385.1 = 0)) == (q65.getD r382.toNat false))) (by kernel_rfl) (fun h400 => ?_) (fun h400 => ?_)
                    rotate_left
                    ·
                      have h400p : ((r385.1 = 0) ↔ ((q65.getD r382.toNat false) = true)) := beq_yes decide_eq_true_iff Iff.rfl (bnot_false h400)
                      replace hm := ite_yes hm h400p
                      refine W.skip ?_
                      refine hK394 _ _ ?_
                      clear hK394
                      refine W.seq fun K401 hK401 => ?_
                      refine W.region ?_
                      refine ops_run 1 (by kernel_rfl) ?_
                      obtain ⟨h404, hm⟩ := need_some hm
                      have hk402 : r382.toNat < 64 := by omega
                      obtain ⟨h405, hm⟩ := need_some hm
                      have hl403 : r382.toNat < q65.length := by omega
                      refine ops_R (v := .pointer (some (adr (some ⟨b48, 0, none⟩) (r382.toNat * 1)))) (runs_indexA (ad := ⟨b48, 0, none⟩) (n := 64) (z := r382) (size := 1) r382.toNat (nat_of h404.1) hk402 (by kernel_rfl)) ?_
                      refine ops_R (runs_load (ad := ((adr (some ⟨b48, 0, none⟩) (r382.toNat * 1)).add 0)) (v := (.bool (q65.getD r382.toNat false))) (by kernel_rfl) (kBool.at (cells_blk (hs393.heapAt 6 rfl)) hl403 false 0 rfl)) ?_
                      refine ops_done (by kernel_rfl) ?_
                      refine hK401 _ _ ?_
                      clear hK401
                      refine W.cond (q65.getD r382.toNat false) (by kernel_rfl) (fun h406 => ?_) (fun h406 => ?_)
                      ·
                        have h406p : (q65.getD r382.toNat false) = true := h406
                        replace hm := ite_yes hm h406p
                        refine W.seq fun K407 hK407 => ?_
                        refine W.region ?_
                        refine ops_run 1 (by kernel_rfl) ?_
                        obtain ⟨h410, hm⟩ := need_some hm
                        have hk408 : r382.toNat < 64 := by omega
                        obtain ⟨h411, hm⟩ := need_some hm
                        have hl409 : r382.toNat < q65.length := by omega
                        refine ops_R (v := .pointer (some (adr (some ⟨b48, 0, none⟩) (r382.toNat * 1)))) (runs_indexA (ad := ⟨b48, 0, none⟩) (n := 64) (z := r382) (size := 1) r382.toNat (nat_of h410.1) hk408 (by kernel_rfl)) ?_
                        have hs414 := St.f6 hs393
                        refine ops_storeArr kBool (j := 0) (vs := [(.bool false)]) false false hs414 hl409 (Nat.le_of_ble_eq_true rfl) rfl rfl (by kernel_rfl) (fun w412 hs413 => ?_)
                        refine ops_done (by kernel_rfl) ?_
                        refine hK407 _ _ ?_
                        clear hK407
                        refine W.region ?_
                        refine ops_run 1 (by kernel_rfl) ?_
                        obtain ⟨h415, hm⟩ := need_some hm
                        refine ops_val (v := .int .i64 (IntKind.i64.wrap (p67 + 1))) (v' := .int .i64 (p67 + 1)) (by kernel_rfl) (congrArg (Value.int .i64) (wrap_i64 h415.1 h415.2)) ?_
                        refine ops_run 1 (by kernel_rfl) ?_
                        refine ops_done (by kernel_rfl) ?_
                        refine normal_block ?_
                        have hs416 := St.f6 hs413
                        have hs417 := St.f2 hs416
                        have hs418 := St.f4 hs417
                        have hs419 := St.f4 hs418
                        have hs420 := St.f5 hs419
                        have hs421 := St.f7 hs420
                        have hs422 := St.f6 hs421
                        have hs423 := St.f7 hs422
                        exact ⟨(q65.set r382.toNat false), q66, (p67 + 1), p68, r385.2, r382, r385.1, slots_intro _ (by kernel_rfl), hs423, hm⟩
                      ·
                        have h406p : ¬ ((q65.getD r382.toNat false) = true) := ne_true_of_eq_false h406
                        replace hm := ite_no hm h406p
                        refine W.skip ?_
                        refine normal_block ?_
                        have hs424 := St.f5 hs393
                        have hs425 := St.f1 hs424
                        have hs426 := St.f3 hs425
                        have hs427 := St.f3 hs426
                        have hs428 := St.f4 hs427
                        have hs429 := St.f7 hs428
                        have hs430 := St.f7 hs429
                        have hs431 := St.f7 hs430
                        exact ⟨q65, q66, p67, p68, r385.2, r382, r385.1, slots_intro _ (by kernel_rfl), hs431, hm⟩
                    ·
                      have h400p : ¬ ((r385.1 = 0) ↔ ((q65.getD r382.toNat false) = true)) := beq_no decide_eq_true_iff Iff.rfl (bnot_true h400)
                      replace hm := ite_no hm h400p
                      refine W.seq fun K432 hK432 => ?_
                      refine W.region ?_
                      refine ops_run 1 (by kernel_rfl) ?_
                      refine ops_done (by kernel_rfl) ?_
                      refine hK432 _ _ ?_
                      clear hK432
                      refine W.ret (ret_seq (ret_block (ret_seq (ret_block (ret_seq (ret_seq (ret_block (ret_seq ?_))))))))
                      have hs433 := St.tk0 hs393
                      refine ret_of (.bool false) (by kernel_rfl) ⟨_, ⟨congrArg Value.bool (some_inj hm), rfl⟩, hs433⟩
                  ·
                    have h377p : ¬ (((ss.getD p69.toNat dSt7).c0).tmod 4 = 2) := of_decide_eq_false h377
                    replace hm := ite_no hm h377p
                    refine W.seq fun K434 hK434 => ?_
                    refine W.region ?_
                    refine ops_run 2 (by kernel_rfl) ?_
                    obtain ⟨h436, hm⟩ := need_some hm
                    have hk435 := lt_toNat h436
                    refine ops_R (runs_index (a := sa) (n := ss.length) (z := p69) (size := 3) p69.toNat (nat_of h436.1) hk435 (kSt7.addr (hs96.oldCells hst) hk435) (by kernel_rfl)) ?_
                    refine ops_run 1 (by kernel_rfl) ?_
                    refine ops_R (runs_load (ad := ((adr sa (p69.toNat * 3)).add 1)) (v := (.int .i64 ((ss.getD p69.toNat dSt7).c1))) (by kernel_rfl) (kSt7.at (hs96.oldCells hst) hk435 dSt7 1 rfl)) ?_
                    refine ops_run 2 (by kernel_rfl) ?_
                    obtain ⟨h437, hm⟩ := need_some hm
                    refine ops_val (v := .int .i64 (IntKind.i64.wrap (1 + (mx ((ss.getD p69.toNat dSt7).c1) 0).tmod 50))) (v' := .int .i64 (1 + (mx ((ss.getD p69.toNat dSt7).c1) 0).tmod 50)) (by kernel_rfl) (congrArg (Value.int .i64) (wrap_i64 h437.1 h437.2)) ?_
                    refine ops_run 1 (by kernel_rfl) ?_
                    obtain ⟨r438, h439, hm⟩ := bind_some hm
                    replace h439 := some_inj h439
                    refine ops_set 17 (v := .int .i64 r438) (Eq.trans (by kernel_rfl) (congrArg (Value.int .i64) h439)) ?_
                    refine ops_done (by kernel_rfl) ?_
                    refine hK434 _ _ ?_
                    clear hK434
                    refine W.seq fun K440 hK440 => ?_
                    refine W.region ?_
                    refine ops_run 2 (by kernel_rfl) ?_
                    obtain ⟨r441, h442, hm⟩ := bind_some hm
                    have hs443 := St.f3 hs96
                    have hs444 := St.f3 hs443
                    have hs445 := St.f3 hs444
                    have hs446 := St.f3 hs445
                    refine ops_call4 hs446 (by kernel_rfl) (agiveb_walk (ab := b91) (ib := b92) (bb := b93) (vb := b83) (img := q63) (l := []) (gw := 1) (gi := (2 + i_.tmod 20)) (gb := (2 + b_.tmod 40)) (ia := (placeOf 6 1 (2 + i_.tmod 20) (2 + b_.tmod 40) 0)) (ba := (placeOf 7 1 (2 + i_.tmod 20) (2 + b_.tmod 40) 0)) (n_ := r438) (hm := h442) B _) ?_
                    rintro _ _ w447 ⟨rfl, rfl⟩ hs448
                    have hs449 := St.ap4 hs448
                    refine ops_run 1 (by kernel_rfl) ?_
                    refine ops_done (by kernel_rfl) ?_
                    refine hK440 _ _ ?_
                    clear hK440
                    refine W.seq fun K450 hK450 => ?_
                    refine W.seq fun K451 hK451 => ?_
                    refine W.region ?_
                    refine ops_run 3 (by kernel_rfl) ?_
                    obtain ⟨h454, hm⟩ := need_some hm
                    have hk452 : r438.toNat < 64 := by omega
                    obtain ⟨h455, hm⟩ := need_some hm
                    have hl453 : r438.toNat < q66.length := by omega
                    refine ops_R (v := .pointer (some (adr (some ⟨b54, 0, none⟩) (r438.toNat * 1)))) (runs_indexA (ad := ⟨b54, 0, none⟩) (n := 64) (z := r438) (size := 1) r438.toNat (nat_of h454.1) hk452 (by kernel_rfl)) ?_
                    refine ops_R (runs_load (ad := ((adr (some ⟨b54, 0, none⟩) (r438.toNat * 1)).add 0)) (v := (.bool (q66.getD r438.toNat false))) (by kernel_rfl) (kBool.at (cells_blk (hs449.heapAt 7 rfl)) hl453 false 0 rfl)) ?_
                    refine ops_run 1 (by kernel_rfl) ?_
                    refine ops_done (by kernel_rfl) ?_
                    refine hK451 _ _ ?_
                    clear hK451
                    refine W.cond (!((decide (r441.1 = 0)) == (q66.getD r438.toNat false))) (by kernel_rfl) (fun h456 => ?_) (fun h456 => ?_)
                    rotate_left
                    ·
                      have h456p : ((r441.1 = 0) ↔ ((q66.getD r438.toNat false) = true)) := beq_yes decide_eq_true_iff Iff.rfl (bnot_false h456)
                      replace hm := ite_yes hm h456p
                      refine W.skip ?_
                      refine hK450 _ _ ?_
                      clear hK450
                      refine W.seq fun K457 hK457 => ?_
                      refine W.region ?_
                      refine ops_run 1 (by kernel_rfl) ?_
                      obtain ⟨h460, hm⟩ := need_some hm
                      have hk458 : r438.toNat < 64 := by omega
                      obtain ⟨h461, hm⟩ := need_some hm
                      have hl459 : r438.toNat < q66.length := by omega
                      refine ops_R (v := .pointer (some (adr (some ⟨b54, 0, none⟩) (r438.toNat * 1)))) (runs_indexA (ad := ⟨b54, 0, none⟩) (n := 64) (z := r438) (size := 1) r438.toNat (nat_of h460.1) hk458 (by kernel_rfl)) ?_
                      refine ops_R (runs_load (ad := ((adr (some ⟨b54, 0, none⟩) (r438.toNat * 1)).add 0)) (v := (.bool (q66.getD r438.toNat false))) (by kernel_rfl) (kBool.at (cells_blk (hs449.heapAt 7 rfl)) hl459 false 0 rfl)) ?_
                      refine ops_done (by kernel_rfl) ?_
                      refine hK457 _ _ ?_
                      clear hK457
                      refine W.cond (q66.getD r438.toNat false) (by kernel_rfl) (fun h462 => ?_) (fun h462 => ?_)
                      ·
                        have h462p : (q66.getD r438.toNat false) = true := h462
                        replace hm := ite_yes hm h462p
                        refine W.seq fun K463 hK463 => ?_
                        refine W.region ?_
                        refine ops_run 1 (by kernel_rfl) ?_
                        obtain ⟨h466, hm⟩ := need_some hm
                        have hk464 : r438.toNat < 64 := by omega
                        obtain ⟨h467, hm⟩ := need_some hm
                        have hl465 : r438.toNat < q66.length := by omega
                        refine ops_R (v := .pointer (some (adr (some ⟨b54, 0, none⟩) (r438.toNat * 1)))) (runs_indexA (ad := ⟨b54, 0, none⟩) (n := 64) (z := r438) (size := 1) r438.toNat (nat_of h466.1) hk464 (by kernel_rfl)) ?_
                        have hs470 := St.f7 hs449
                        refine ops_storeArr kBool (j := 0) (vs := [(.bool false)]) false false hs470 hl465 (Nat.le_of_ble_eq_true rfl) rfl rfl (by kernel_rfl) (fun w468 hs469 => ?_)
                        refine ops_done (by kernel_rfl) ?_
                        refine hK463 _ _ ?_
                        clear hK463
                        refine W.region ?_
                        refine ops_run 1 (by kernel_rfl) ?_
                        obtain ⟨h471, hm⟩ := need_some hm
                        refine ops_val (v := .int .i64 (IntKind.i64.wrap (p68 + 1))) (v' := .int .i64 (p68 + 1)) (by kernel_rfl) (congrArg (Value.int .i64) (wrap_i64 h471.1 h471.2)) ?_
                        refine ops_run 1 (by kernel_rfl) ?_
                        refine ops_done (by kernel_rfl) ?_
                        refine normal_block ?_
                        have hs472 := St.f6 hs469
                        have hs473 := St.f2 hs472
                        have hs474 := St.f4 hs473
                        have hs475 := St.f4 hs474
                        have hs476 := St.f5 hs475
                        have hs477 := St.f5 hs476
                        have hs478 := St.f7 hs477
                        have hs479 := St.f7 hs478
                        exact ⟨q65, (q66.set r438.toNat false), p67, (p68 + 1), r441.2, r438, r441.1, slots_intro _ (by kernel_rfl), hs479, hm⟩
                      ·
                        have h462p : ¬ ((q66.getD r438.toNat false) = true) := ne_true_of_eq_false h462
                        replace hm := ite_no hm h462p
                        refine W.skip ?_
                        refine normal_block ?_
                        have hs480 := St.f5 hs449
                        have hs481 := St.f1 hs480
                        have hs482 := St.f3 hs481
                        have hs483 := St.f3 hs482
                        have hs484 := St.f4 hs483
                        have hs485 := St.f7 hs484
                        have hs486 := St.f7 hs485
                        have hs487 := St.f7 hs486
                        exact ⟨q65, q66, p67, p68, r441.2, r438, r441.1, slots_intro _ (by kernel_rfl), hs487, hm⟩
                    ·
                      have h456p : ¬ ((r441.1 = 0) ↔ ((q66.getD r438.toNat false) = true)) := beq_no decide_eq_true_iff Iff.rfl (bnot_true h456)
                      replace hm := ite_no hm h456p
                      refine W.seq fun K488 hK488 => ?_
                      refine W.region ?_
                      refine ops_run 1 (by kernel_rfl) ?_
                      refine ops_done (by kernel_rfl) ?_
                      refine hK488 _ _ ?_
                      clear hK488
                      refine W.ret (ret_seq (ret_block (ret_seq (ret_block (ret_seq (ret_seq (ret_block (ret_seq ?_))))))))
                      have hs489 := St.tk0 hs449
                      refine ret_of (.bool false) (by kernel_rfl) ⟨_, ⟨congrArg Value.bool (some_inj hm), rfl⟩, hs489⟩
          ·
            have h90p : ¬ (May 1 (2 + i_.tmod 20) (2 + b_.tmod 40) ∧ wordsOf 1 (2 + i_.tmod 20) (2 + b_.tmod 40) ≤ (q63.length : Int)) := of_decide_eq_false h90
            replace hm := ite_no hm h90p
            refine ops_call0 hs87 (by kernel_rfl) (anew_err (gw := 1) (gi := (2 + i_.tmod 20)) (gb := (2 + b_.tmod 40)) (hv := (hs87.entAt 0 rfl viewA_at)) (hz := h89) (hN := h90p) B _) ?_
            rintro _ _ w490 ⟨rfl, rfl⟩ hs491
            have hs492 := St.ap0 hs491
            refine ops_run 5 (by kernel_rfl) ?_
            obtain ⟨r493, h494, hm⟩ := bind_some hm
            replace h494 := some_inj h494
            refine ops_set 16 (v := .int .i64 r493) (Eq.trans (by kernel_rfl) (congrArg (Value.int .i64) h494)) ?_
            refine ops_done (by kernel_rfl) ?_
            refine hK88 _ _ ?_
            clear hK88
            refine W.seq fun K495 hK495 => ?_
            refine W.seq fun K496 hK496 => ?_
            refine W.region ?_
            refine ops_run 10 (by kernel_rfl) ?_
            refine ops_done (by kernel_rfl) ?_
            refine hK496 _ _ ?_
            clear hK496
            refine W.cond_true true (by kernel_rfl) rfl ?_
            refine W.seq fun K497 hK497 => ?_
            refine W.region ?_
            refine ops_run 1 (by kernel_rfl) ?_
            refine ops_done (by kernel_rfl) ?_
            refine hK497 _ _ ?_
            clear hK497
            refine W.ret (ret_seq (ret_block (ret_seq (ret_seq (ret_block (ret_seq ?_))))))
            have hs498 := St.tk0 hs492
            refine ret_of (.bool false) (by kernel_rfl) ⟨_, ⟨congrArg Value.bool (some_inj hm), rfl⟩, hs498⟩
        ·
          have h79p : ¬ (p69 < (ss.length : Int)) := of_decide_eq_false h79
          replace hm := ite_no hm h79p
          refine W.exit (exit_seq (exit_seq (exit_here ?_)))
          refine hK59 _ _ ?_
          clear hK59
          refine W.seq fun K499 hK499 => ?_
          refine W.region ?_
          obtain ⟨r500, h501, hm⟩ := bind_some hm
          refine ops_call0 hs73 (by kernel_rfl) (works07_walk (hG := hG) (hT := (hs73.oldCells hT)) (hm := h501) B _) ?_
          rintro _ _ w503 ⟨rfl, rfl⟩ hs504
          have hs505 := St.ap0 hs504
          refine ops_run 1 (by kernel_rfl) ?_
          refine ops_done (by kernel_rfl) ?_
          refine hK499 _ _ ?_
          clear hK499
          refine W.ret ?_
          have hs506 := St.tk0 hs505
          refine ret_of (.bool r500) (by kernel_rfl) ⟨_, ⟨congrArg Value.bool (some_inj hm), rfl⟩, hs506⟩
    ·
      have h38p : ¬ ((((fmtW 1 (2 + i_.tmod 20) (2 + b_.tmod 40)).length) : Int) = r31) := of_decide_eq_false (bnot_true h38)
      replace hm := ite_no hm h38p
      refine ops_set 43 (v := .bool true) (eq_bool_of (by kernel_rfl) h38) ?_
      refine ops_set 42 (v := .bool true) (eq_bool_of (by kernel_rfl) h38) ?_
      refine ops_run 4 (by kernel_rfl) ?_
      refine ops_done (by kernel_rfl) ?_
      refine hK30 _ _ ?_
      clear hK30
      refine W.cond_true true (by kernel_rfl) rfl ?_
      refine W.seq fun K507 hK507 => ?_
      refine W.region ?_
      refine ops_run 1 (by kernel_rfl) ?_
      refine ops_done (by kernel_rfl) ?_
      refine hK507 _ _ ?_
      clear hK507
      refine W.ret (ret_seq ?_)
      have hs508 := St.tk0 hs37
      refine ret_of (.bool false) (by kernel_rfl) ⟨_, ⟨congrArg Value.bool (some_inj hm), rfl⟩, hs508⟩

end Go.Proofs.YthimamnblklkbaaDoor
