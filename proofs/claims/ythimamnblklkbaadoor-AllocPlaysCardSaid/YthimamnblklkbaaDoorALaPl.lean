/- What the code computes, by a program. -/
import Derived.Test.YthimamnblklkbaaDoorGG
import Derived.Test.YthimamnblklkbaaDoorGH
import Derived.Test.YthimamnblklkbaaDoorGF
namespace Go.Proofs.YthimamnblklkbaaDoor
open Go Go.RowKit
set_option linter.unusedSimpArgs false
set_option linter.unusedVariables false

def allocplays_J2 (gw : Int) (gi : Int) (gb : Int) (cut_ : Int) (q31 : List Int) (l75 : List (Int × Int)) (l76 : List (Int × Int)) : Option (Bool) :=
  need (l76.length ≤ 9223372036854775806) <|
if l76 = l75 then (need ((vflat (q31.take (((((fmtW gw gi gb).length) : Int) - (mn cut_ (((fmtW gw gi gb).length) : Int))).toNat)) l76).length ≤ 9223372036854775806) <|
if (vflat (q31.take (((((fmtW gw gi gb).length) : Int) - (mn cut_ (((fmtW gw gi gb).length) : Int))).toNat)) l76) = (vflat (q31.take (((((fmtW gw gi gb).length) : Int) - (mn cut_ (((fmtW gw gi gb).length) : Int))).toNat)) l75) then ((works07_M).bind fun r180 =>
some r180) else (some false)) else (some false)

def allocplays_J5 (gw : Int) (gi : Int) (gb : Int) (cut_ : Int) (q31 : List Int) (k252 : ((List (Int × Int)) × (List (Int × Int)) × Int) → Option (Bool)) (p251 : Int) (l284 : List (Int × Int)) (l285 : List (Int × Int)) (p286 : Bool) : Option (Bool) :=
  (afree_M (q31.take (((((fmtW gw gi gb).length) : Int) - (mn cut_ (((fmtW gw gi gb).length) : Int))).toNat)) l285 gi gb (placeOf 6 gw gi gb 0) (placeOf 7 gw gi gb 0)).bind fun r290 =>
(rfree_M (q31.take (((((fmtW gw gi gb).length) : Int) - (mn cut_ (((fmtW gw gi gb).length) : Int))).toNat)) l284 gi gb (placeOf 6 gw gi gb 0) (placeOf 7 gw gi gb 0)).bind fun r296 =>
if p286 = true then (if r290.1 = r296.1 then (if r290.2 = r296.2 then (need (-9223372036854775808 ≤ (p251 + 1) ∧ (p251 + 1) ≤ 9223372036854775807) <|
k252 (l284, l285, (p251 + 1))) else (some false)) else (some false)) else (some false)

def allocplays_J4 (gw : Int) (gi : Int) (gb : Int) (cut_ : Int) (ss : List TSt7) (q31 : List Int) (k252 : ((List (Int × Int)) × (List (Int × Int)) × Int) → Option (Bool)) (p251 : Int) (l279 : List (Int × Int)) (l280 : List (Int × Int)) : Option (Bool) :=
  if ((ss.getD p251.toNat dSt7).c0).tmod 5 = 0 then ((atakei_M (q31.take (((((fmtW gw gi gb).length) : Int) - (mn cut_ (((fmtW gw gi gb).length) : Int))).toNat)) l280 gi (placeOf 6 gw gi gb 0)).bind fun r327 =>
(rtakei_M (q31.take (((((fmtW gw gi gb).length) : Int) - (mn cut_ (((fmtW gw gi gb).length) : Int))).toNat)) l279 gi (placeOf 6 gw gi gb 0)).bind fun r337 =>
if r327.1 = r337.1 then (allocplays_J5 gw gi gb cut_ q31 k252 p251 r337.2.2 r327.2.2 (decide (r327.2.1 = r337.2.1))) else (allocplays_J5 gw gi gb cut_ q31 k252 p251 r337.2.2 r327.2.2 false)) else (if ((ss.getD p251.toNat dSt7).c0).tmod 5 = 1 then ((atakeb_M (q31.take (((((fmtW gw gi gb).length) : Int) - (mn cut_ (((fmtW gw gi gb).length) : Int))).toNat)) l280 gw gi gb (placeOf 7 gw gi gb 0)).bind fun r372 =>
(rtakeb_M (q31.take (((((fmtW gw gi gb).length) : Int) - (mn cut_ (((fmtW gw gi gb).length) : Int))).toNat)) l279 gw gi gb (placeOf 7 gw gi gb 0)).bind fun r382 =>
if r372.1 = r382.1 then (allocplays_J5 gw gi gb cut_ q31 k252 p251 r382.2.2 r372.2.2 (decide (r372.2.1 = r382.2.1))) else (allocplays_J5 gw gi gb cut_ q31 k252 p251 r382.2.2 r372.2.2 false)) else (if ((ss.getD p251.toNat dSt7).c0).tmod 5 = 2 then ((agivei_M (q31.take (((((fmtW gw gi gb).length) : Int) - (mn cut_ (((fmtW gw gi gb).length) : Int))).toNat)) l280 gi (placeOf 6 gw gi gb 0) ((ss.getD p251.toNat dSt7).c1)).bind fun r427 =>
(rgivei_M (q31.take (((((fmtW gw gi gb).length) : Int) - (mn cut_ (((fmtW gw gi gb).length) : Int))).toNat)) l279 gi (placeOf 6 gw gi gb 0) ((ss.getD p251.toNat dSt7).c1)).bind fun r446 =>
allocplays_J5 gw gi gb cut_ q31 k252 p251 r446.2 r427.2 (decide (r427.1 = r446.1))) else (if ((ss.getD p251.toNat dSt7).c0).tmod 5 = 3 then ((agiveb_M (q31.take (((((fmtW gw gi gb).length) : Int) - (mn cut_ (((fmtW gw gi gb).length) : Int))).toNat)) l280 gb (placeOf 7 gw gi gb 0) ((ss.getD p251.toNat dSt7).c1)).bind fun r489 =>
(rgiveb_M (q31.take (((((fmtW gw gi gb).length) : Int) - (mn cut_ (((fmtW gw gi gb).length) : Int))).toNat)) l279 gb (placeOf 7 gw gi gb 0) ((ss.getD p251.toNat dSt7).c1)).bind fun r508 =>
allocplays_J5 gw gi gb cut_ q31 k252 p251 r508.2 r489.2 (decide (r489.1 = r508.1))) else ((aused_M (q31.take (((((fmtW gw gi gb).length) : Int) - (mn cut_ (((fmtW gw gi gb).length) : Int))).toNat)) l280 gb (placeOf 7 gw gi gb 0) ((ss.getD p251.toNat dSt7).c1)).bind fun r539 =>
(rused_M (q31.take (((((fmtW gw gi gb).length) : Int) - (mn cut_ (((fmtW gw gi gb).length) : Int))).toNat)) l279 gb (placeOf 7 gw gi gb 0) ((ss.getD p251.toNat dSt7).c1)).bind fun r544 =>
allocplays_J5 gw gi gb cut_ q31 k252 p251 l279 l280 (r539 == r544)))))

def allocplays_B1 (gw : Int) (gi : Int) (gb : Int) (cut_ : Int) (ss : List TSt7) (q31 : List Int) (k252 : ((List (Int × Int)) × (List (Int × Int)) × Int) → Option (Bool)) (l249 : List (Int × Int)) (l250 : List (Int × Int)) (p251 : Int) : Option (Bool) :=
  if p251 < (ss.length : Int) then (need (0 ≤ p251 ∧ p251 < (ss.length : Int)) <|
if ((ss.getD p251.toNat dSt7).c2) = true then (allocplays_J4 gw gi gb cut_ ss q31 k252 p251 ([]) ([])) else (allocplays_J4 gw gi gb cut_ ss q31 k252 p251 l249 l250)) else (allocplays_J2 gw gi gb cut_ q31 l249 l250)

def allocplays_J1 (gw : Int) (gi : Int) (gb : Int) (cut_ : Int) (ss : List TSt7) (q31 : List Int) : Option (Bool) :=
  need (-9223372036854775808 ≤ cut_ ∧ cut_ ≤ 9223372036854775807) <|
need (-9223372036854775808 ≤ ((((fmtW gw gi gb).length) : Int) - (mn cut_ (((fmtW gw gi gb).length) : Int))) ∧ ((((fmtW gw gi gb).length) : Int) - (mn cut_ (((fmtW gw gi gb).length) : Int))) ≤ 9223372036854775807) <|
need (0 ≤ ((((fmtW gw gi gb).length) : Int) - (mn cut_ (((fmtW gw gi gb).length) : Int))) ∧ ((((fmtW gw gi gb).length) : Int) - (mn cut_ (((fmtW gw gi gb).length) : Int))) ≤ (((fmtW gw gi gb).length) : Int)) <|
need ((fmtW gw gi gb).length = q31.length) <|
need ((q31.take (((((fmtW gw gi gb).length) : Int) - (mn cut_ (((fmtW gw gi gb).length) : Int))).toNat)).length ≤ 17592186044415) <|
need ((q31.take (((((fmtW gw gi gb).length) : Int) - (mn cut_ (((fmtW gw gi gb).length) : Int))).toNat)).length ≤ 17592186044415) <|
need (((q31.take (((((fmtW gw gi gb).length) : Int) - (mn cut_ (((fmtW gw gi gb).length) : Int))).toNat)).length : Int) ≤ 1000000000000) <|
if May gw gi gb ∧ wordsOf gw gi gb ≤ ((q31.take (((((fmtW gw gi gb).length) : Int) - (mn cut_ (((fmtW gw gi gb).length) : Int))).toNat)).length : Int) then (need (((q31.take (((((fmtW gw gi gb).length) : Int) - (mn cut_ (((fmtW gw gi gb).length) : Int))).toNat)).length : Int) ≤ 1000000000000) <|
if May gw gi gb ∧ wordsOf gw gi gb ≤ ((q31.take (((((fmtW gw gi gb).length) : Int) - (mn cut_ (((fmtW gw gi gb).length) : Int))).toNat)).length : Int) then (iter (fun k_ s_ => allocplays_B1 gw gi gb cut_ ss q31 k_ s_.1 s_.2.1 s_.2.2) FUEL ([], [], 0)) else ((some (if May gw gi gb then (8 : Int) else 1)).bind fun r600 =>
if 0 = r600 then (some false) else (some false))) else ((some (if May gw gi gb then (8 : Int) else 1)).bind fun r612 =>
need (((q31.take (((((fmtW gw gi gb).length) : Int) - (mn cut_ (((fmtW gw gi gb).length) : Int))).toNat)).length : Int) ≤ 1000000000000) <|
if May gw gi gb ∧ wordsOf gw gi gb ≤ ((q31.take (((((fmtW gw gi gb).length) : Int) - (mn cut_ (((fmtW gw gi gb).length) : Int))).toNat)).length : Int) then (if r612 = 0 then (some false) else (some false)) else ((some (if May gw gi gb then (8 : Int) else 1)).bind fun r633 =>
if r612 = r633 then ((works07_M).bind fun r641 =>
some r641) else (some false)))

def allocplays_B0 (gw : Int) (gi : Int) (gb : Int) (ts : List TTn7) (cut_ : Int) (ss : List TSt7) (k653 : ((List Int) × Int) → Option (Bool)) (q651 : List Int) (p652 : Int) : Option (Bool) :=
  if p652 < (ts.length : Int) then (if (((fmtW gw gi gb).length) : Int) > 0 then (need (0 ≤ p652 ∧ p652 < (ts.length : Int)) <|
need (-9223372036854775808 ≤ ((ts.getD p652.toNat dTn7).c0) ∧ ((ts.getD p652.toNat dTn7).c0) ≤ 9223372036854775807) <|
need (¬ ((((fmtW gw gi gb).length) : Int) = 0)) <|
need (0 ≤ p652 ∧ p652 < (ts.length : Int)) <|
need (0 ≤ (((ts.getD p652.toNat dTn7).c0).tmod (((fmtW gw gi gb).length) : Int)) ∧ (((ts.getD p652.toNat dTn7).c0).tmod (((fmtW gw gi gb).length) : Int)) < (((fmtW gw gi gb).length) : Int)) <|
need ((((ts.getD p652.toNat dTn7).c0).tmod (((fmtW gw gi gb).length) : Int)).toNat < q651.length) <|
need (-9223372036854775808 ≤ (p652 + 1) ∧ (p652 + 1) ≤ 9223372036854775807) <|
k653 ((q651.set ((((ts.getD p652.toNat dTn7).c0).tmod (((fmtW gw gi gb).length) : Int)).toNat) ((ts.getD p652.toNat dTn7).c1)), (p652 + 1))) else (allocplays_J1 gw gi gb cut_ ss q651)) else (allocplays_J1 gw gi gb cut_ ss q651)

def allocplays_M (gw : Int) (gi : Int) (gb : Int) (ts : List TTn7) (cut_ : Int) (ss : List TSt7) : Option (Bool) :=
  if (ts.length : Int) > 20 then ((works07_M).bind fun r9 =>
some r9) else (if (ss.length : Int) > 200 then ((works07_M).bind fun r18 =>
some r18) else (iter (fun k_ s_ => allocplays_B0 gw gi gb ts cut_ ss k_ s_.1 s_.2) FUEL ((fmtW gw gi gb), 0)))

set_option maxRecDepth 20000 in
set_option maxHeartbeats 4000000 in
set_option linter.unusedVariables false in
theorem allocplays_walk {gw : Int} {gi : Int} {gb : Int} {ts : List TTn7} {cut_ : Int} {ss : List TSt7} {ta : Option Addr} {tc : Nat} {sa : Option Addr} {sc : Nat}  (B : Nat) (w : World) (hB : w.heap.size = B) (hT : CellsAt (some ⟨0, 0, none⟩) tab8 w) (ht : CellsAt ta (kTn7.cells ts) w) (hst : CellsAt sa (kSt7.cells ss) w) (hm : allocplays_M gw gi gb ts cut_ ss = some true) : Spec Tryd.prog 19 #[(.agg #[(.int .i64 gw), (.int .i64 gi), (.int .i64 gb)]), (.slice ta ts.length tc), (.int .u16 cut_), (.slice sa ss.length sc)] B w [] (fun v H' => v = .bool true ∧ H' = []) := by
  refine spec_Q Tryd.func19 rfl fun hs => ?_
  unfold allocplays_M at hm
  have hG : 0 < B := by rw [← hB]; exact lt_of_cells hT (v := .int .u8 0) (by kernel_rfl)
  refine W.seq fun K1 hK1 => ?_
  refine W.region ?_
  refine ops_new (fun b => .pointer (some ⟨b, 0, none⟩)) (.cells [(.int .i64 gw), (.int .i64 gi), (.int .i64 gb)].toArray 63 (0, 0)) hs (by kernel_rfl) (fun b4 w2 hs3 => ?_)
  refine ops_run 1 (by kernel_rfl) ?_
  refine ops_done (by kernel_rfl) ?_
  refine hK1 _ _ ?_
  clear hK1
  refine W.seq fun K5 hK5 => ?_
  refine W.seq fun K6 hK6 => ?_
  refine W.region ?_
  refine ops_run 4 (by kernel_rfl) ?_
  rcases Bool.eq_false_or_eq_true (decide ((ts.length : Int) > 20)) with h7 | h7
  ·
    have h7p : (ts.length : Int) > 20 := of_decide_eq_true h7
    replace hm := ite_yes hm h7p
    refine ops_set 35 (v := .bool true) (eq_bool_of (by kernel_rfl) h7) ?_
    refine ops_set 34 (v := .bool true) (eq_bool_of (by kernel_rfl) h7) ?_
    refine ops_run 4 (by kernel_rfl) ?_
    refine ops_done (by kernel_rfl) ?_
    refine hK6 _ _ ?_
    clear hK6
    refine W.cond_true true (by kernel_rfl) rfl ?_
    refine W.seq fun K8 hK8 => ?_
    refine W.region ?_
    obtain ⟨r9, h10, hm⟩ := bind_some hm
    refine ops_call0 hs3 (by kernel_rfl) (works07_walk (hG := hG) (hT := (hs3.oldCells hT)) (hm := h10) B _) ?_
    rintro _ _ w12 ⟨rfl, rfl⟩ hs13
    have hs14 := St.ap0 hs13
    refine ops_run 1 (by kernel_rfl) ?_
    refine ops_done (by kernel_rfl) ?_
    refine hK8 _ _ ?_
    clear hK8
    refine W.ret (ret_seq ?_)
    have hs15 := St.tk0 hs14
    refine ret_of (.bool r9) (by kernel_rfl) ⟨_, ⟨congrArg Value.bool (some_inj hm), rfl⟩, hs15⟩
  ·
    have h7p : ¬ ((ts.length : Int) > 20) := of_decide_eq_false h7
    replace hm := ite_no hm h7p
    refine ops_set 35 (v := .bool false) (eq_bool_of (by kernel_rfl) h7) ?_
    refine ops_set 34 (v := .bool false) (eq_bool_of (by kernel_rfl) h7) ?_
    refine ops_run 4 (by kernel_rfl) ?_
    refine ops_done (by kernel_rfl) ?_
    refine hK6 _ _ ?_
    clear hK6
    refine W.cond (decide ((ss.length : Int) > 200)) (by kernel_rfl) (fun h16 => ?_) (fun h16 => ?_)
    ·
      have h16p : (ss.length : Int) > 200 := of_decide_eq_true h16
      replace hm := ite_yes hm h16p
      refine W.seq fun K17 hK17 => ?_
      refine W.region ?_
      obtain ⟨r18, h19, hm⟩ := bind_some hm
      refine ops_call0 hs3 (by kernel_rfl) (works07_walk (hG := hG) (hT := (hs3.oldCells hT)) (hm := h19) B _) ?_
      rintro _ _ w21 ⟨rfl, rfl⟩ hs22
      have hs23 := St.ap0 hs22
      refine ops_run 1 (by kernel_rfl) ?_
      refine ops_done (by kernel_rfl) ?_
      refine hK17 _ _ ?_
      clear hK17
      refine W.ret (ret_seq ?_)
      have hs24 := St.tk0 hs23
      refine ret_of (.bool r18) (by kernel_rfl) ⟨_, ⟨congrArg Value.bool (some_inj hm), rfl⟩, hs24⟩
    ·
      have h16p : ¬ ((ss.length : Int) > 200) := of_decide_eq_false h16
      replace hm := ite_no hm h16p
      refine W.skip ?_
      refine hK5 _ _ ?_
      clear hK5
      refine W.seq fun K25 hK25 => ?_
      refine W.region ?_
      refine ops_R (runs_loadAgg (ad := ⟨b4, 0, none⟩) (cs := [(.int .i64 gw), (.int .i64 gi), (.int .i64 gb)]) (by kernel_rfl) (cells_sub (hs3.heapAt 0 rfl) rfl)) ?_
      refine ops_call0 hs3 (by kernel_rfl) (format_spec (gw := gw) (gi := gi) (gb := gb) B _) ?_
      rintro _ _ w28 ⟨a26, c27, rfl, rfl⟩ hs29
      have hs30 := St.ap1 hs29
      refine ops_run 1 (by kernel_rfl) ?_
      refine ops_done (by kernel_rfl) ?_
      refine hK25 _ _ ?_
      clear hK25
      refine W.seq_join (fun s_ w_ => ∃ (q31 : List Int), (∃ us, s_ = slots 243 [(2, (.int .u16 cut_)), (3, (.slice sa ss.length sc)), (4, (.pointer (some ⟨b4, 0, none⟩))), (9, (.slice a26 ((fmtW gw gi gb).length) c27))] us) ∧ St B w [] w_ [kU64.row a26 c27 q31, blk b4 (.cells [(.int .i64 gw), (.int .i64 gi), (.int .i64 gb)].toArray 63 (0, 0))] ∧ allocplays_J1 gw gi gb cut_ ss q31 = some true) ?_ ?_
      ·
        rintro _ w32 ⟨q31, ⟨us, rfl⟩, hs33, hm⟩
        unfold allocplays_J1 at hm
        refine W.seq fun K34 hK34 => ?_
        refine W.region ?_
        refine ops_run 4 (by kernel_rfl) ?_
        obtain ⟨h35, hm⟩ := need_some hm
        refine ops_val (v := .int .i64 (IntKind.i64.wrap cut_)) (v' := .int .i64 cut_) (by kernel_rfl) (congrArg (Value.int .i64) (wrap_i64 h35.1 h35.2)) ?_
        refine ops_run 3 (by kernel_rfl) ?_
        obtain ⟨h36, hm⟩ := need_some hm
        refine ops_val (v := .int .i64 (IntKind.i64.wrap ((((fmtW gw gi gb).length) : Int) - (mn cut_ (((fmtW gw gi gb).length) : Int))))) (v' := .int .i64 ((((fmtW gw gi gb).length) : Int) - (mn cut_ (((fmtW gw gi gb).length) : Int)))) (by kernel_rfl) (congrArg (Value.int .i64) (wrap_i64 h36.1 h36.2)) ?_
        obtain ⟨h37, hm⟩ := need_some hm
        have hc38 := St.kcap kU64 hs33 0 rfl
        obtain ⟨h39, hm⟩ := need_some hm
        rw [← h39] at hc38
        refine ops_R (runs_prefixL (a := a26) (n := (fmtW gw gi gb).length) (c := c27) (z := ((((fmtW gw gi gb).length) : Int) - (mn cut_ (((fmtW gw gi gb).length) : Int)))) (size := 1) (((((fmtW gw gi gb).length) : Int) - (mn cut_ (((fmtW gw gi gb).length) : Int))).toNat) (q31.take (((((fmtW gw gi gb).length) : Int) - (mn cut_ (((fmtW gw gi gb).length) : Int))).toNat)).length (le_take_len (by omega)) (nat_of h37.1) (le_toNat h37) hc38 (by kernel_rfl)) ?_
        refine ops_run 1 (by kernel_rfl) ?_
        refine ops_done (by kernel_rfl) ?_
        refine hK34 _ _ ?_
        clear hK34
        refine W.seq fun K40 hK40 => ?_
        refine W.region ?_
        refine ops_run 1 (by kernel_rfl) ?_
        have hs41 := St.kprefix kU64 (((((fmtW gw gi gb).length) : Int) - (mn cut_ (((fmtW gw gi gb).length) : Int))).toNat) hs33
        obtain ⟨h43, hm⟩ := need_some hm
        refine ops_call0 hs41 (by kernel_rfl) (new_spec (hc := (St.kcells kU64 hs41 0 rfl)) (hn := (St.capnil kU64 hs41 0 rfl)) (hsz := h43) B _) ?_
        rintro _ _ w44 ⟨b42, rfl, rfl⟩ hs45
        have hs46 := St.ap1 hs45
        refine ops_run 1 (by kernel_rfl) ?_
        refine ops_done (by kernel_rfl) ?_
        refine hK40 _ _ ?_
        clear hK40
        refine W.seq fun K47 hK47 => ?_
        refine W.region ?_
        refine ops_run 1 (by kernel_rfl) ?_
        obtain ⟨h49, hm⟩ := need_some hm
        refine ops_call0 hs46 (by kernel_rfl) (rnew_spec (hc := (St.kcells kU64 hs46 1 rfl)) (hn := (St.capnil kU64 hs46 1 rfl)) (hsz := h49) B _) ?_
        rintro _ _ w50 ⟨b48, rfl, rfl⟩ hs51
        have hs52 := St.ap1 hs51
        refine ops_run 1 (by kernel_rfl) ?_
        refine ops_done (by kernel_rfl) ?_
        refine hK47 _ _ ?_
        clear hK47
        refine W.seq fun K53 hK53 => ?_
        refine W.region ?_
        refine ops_run 1 (by kernel_rfl) ?_
        refine ops_R (runs_loadAgg (ad := ⟨b4, 0, none⟩) (cs := [(.int .i64 gw), (.int .i64 gi), (.int .i64 gb)]) (by kernel_rfl) (cells_sub (hs52.heapAt 3 rfl) rfl)) ?_
        obtain ⟨h54, hm⟩ := need_some hm
        rcases Bool.eq_false_or_eq_true (decide (May gw gi gb ∧ wordsOf gw gi gb ≤ ((q31.take (((((fmtW gw gi gb).length) : Int) - (mn cut_ (((fmtW gw gi gb).length) : Int))).toNat)).length : Int))) with h55 | h55
        ·
          have h55p : May gw gi gb ∧ wordsOf gw gi gb ≤ ((q31.take (((((fmtW gw gi gb).length) : Int) - (mn cut_ (((fmtW gw gi gb).length) : Int))).toNat)).length : Int) := of_decide_eq_true h55
          replace hm := ite_yes hm h55p
          refine ops_call0 hs52 (by kernel_rfl) (anew_ok (gw := gw) (gi := gi) (gb := gb) (hv := (hs52.entAt 1 rfl viewA_at)) (hz := h54) (hP := h55p) B _) ?_
          rintro _ _ w59 ⟨b56, b57, b58, rfl, rfl⟩ hs60
          have hs61 := St.ap3 hs60
          refine ops_run 5 (by kernel_rfl) ?_
          refine ops_done (by kernel_rfl) ?_
          refine hK53 _ _ ?_
          clear hK53
          refine W.seq fun K62 hK62 => ?_
          refine W.region ?_
          refine ops_run 1 (by kernel_rfl) ?_
          refine ops_R (runs_loadAgg (ad := ⟨b4, 0, none⟩) (cs := [(.int .i64 gw), (.int .i64 gi), (.int .i64 gb)]) (by kernel_rfl) (cells_sub (hs61.heapAt 6 rfl) rfl)) ?_
          obtain ⟨h63, hm⟩ := need_some hm
          rcases Bool.eq_false_or_eq_true (decide (May gw gi gb ∧ wordsOf gw gi gb ≤ ((q31.take (((((fmtW gw gi gb).length) : Int) - (mn cut_ (((fmtW gw gi gb).length) : Int))).toNat)).length : Int))) with h64 | h64
          ·
            have h64p : May gw gi gb ∧ wordsOf gw gi gb ≤ ((q31.take (((((fmtW gw gi gb).length) : Int) - (mn cut_ (((fmtW gw gi gb).length) : Int))).toNat)).length : Int) := of_decide_eq_true h64
            replace hm := ite_yes hm h64p
            refine ops_call0 hs61 (by kernel_rfl) (rnew_ok (gw := gw) (gi := gi) (gb := gb) (hv := (hs61.entAt 3 rfl refA_at)) (hz := h63) (hP := h64p) B _) ?_
            rintro _ _ w68 ⟨b65, b66, b67, rfl, rfl⟩ hs69
            have hs70 := St.ap3 hs69
            refine ops_run 5 (by kernel_rfl) ?_
            refine ops_done (by kernel_rfl) ?_
            refine hK62 _ _ ?_
            clear hK62
            refine W.seq fun K71 hK71 => ?_
            refine W.seq fun K72 hK72 => ?_
            refine W.region ?_
            refine ops_run 14 (by kernel_rfl) ?_
            refine ops_done (by kernel_rfl) ?_
            refine hK72 _ _ ?_
            clear hK72
            refine W.cond_false false (by kernel_rfl) rfl ?_
            refine W.skip ?_
            refine hK71 _ _ ?_
            clear hK71
            refine W.seq fun K73 hK73 => ?_
            refine W.seq fun K74 hK74 => ?_
            refine W.region ?_
            refine ops_run 2 (by kernel_rfl) ?_
            refine ops_done (by kernel_rfl) ?_
            refine hK74 _ _ ?_
            clear hK74
            refine W.cond_false false (by kernel_rfl) rfl ?_
            refine W.skip ?_
            refine hK73 _ _ ?_
            clear hK73
            refine W.seq_join (fun s_ w_ => ∃ (l75 : List (Int × Int)) (l76 : List (Int × Int)), (∃ us, s_ = slots 243 [(11, (.pointer (some ⟨b42, 0, none⟩))), (12, (.pointer (some ⟨b48, 0, none⟩)))] us) ∧ St B w [] w_ [refA (ptr b48) (q31.take (((((fmtW gw gi gb).length) : Int) - (mn cut_ (((fmtW gw gi gb).length) : Int))).toNat)) l75, blk b66 (.cells [(.pointer (some ⟨b48, 0, none⟩)), (.int .i64 (placeOf 6 gw gi gb 0)), (.int .i64 gi)].toArray 202 (0, 0)), blk b67 (.cells [(.pointer (some ⟨b48, 0, none⟩)), (.int .i64 (placeOf 7 gw gi gb 0)), (.int .i64 gb)].toArray 202 (0, 0)), blk b65 (.cells [(.pointer (some ⟨b48, 0, none⟩)), (.int .i64 gw), (.int .i64 gi), (.int .i64 gb), (.pointer (some ⟨b66, 0, none⟩)), (.pointer (some ⟨b67, 0, none⟩))].toArray 204 (0, 0)), viewA (ptr b42) (q31.take (((((fmtW gw gi gb).length) : Int) - (mn cut_ (((fmtW gw gi gb).length) : Int))).toNat)) l76, blk b57 (.cells [(.pointer (some ⟨b42, 0, none⟩)), (.int .i64 (placeOf 6 gw gi gb 0)), (.int .i64 gi)].toArray 151 (0, 0)), blk b58 (.cells [(.pointer (some ⟨b42, 0, none⟩)), (.int .i64 (placeOf 7 gw gi gb 0)), (.int .i64 gb)].toArray 151 (0, 0)), blk b56 (.cells [(.pointer (some ⟨b42, 0, none⟩)), (.int .i64 gw), (.int .i64 gi), (.int .i64 gb), (.pointer (some ⟨b57, 0, none⟩)), (.int .i64 gi), (.pointer (some ⟨b58, 0, none⟩)), (.int .i64 gb)].toArray 188 (0, 0)), kU64.row a26 c27 (q31.take (((((fmtW gw gi gb).length) : Int) - (mn cut_ (((fmtW gw gi gb).length) : Int))).toNat)), blk b4 (.cells [(.int .i64 gw), (.int .i64 gi), (.int .i64 gb)].toArray 63 (0, 0))] ∧ allocplays_J2 gw gi gb cut_ q31 l75 l76 = some true) ?_ ?_
            ·
              rintro _ w77 ⟨l75, l76, ⟨us, rfl⟩, hs78, hm⟩
              unfold allocplays_J2 at hm
              refine W.seq fun K79 hK79 => ?_
              obtain ⟨⟨_, ia80, ic81, la82, lc83, mn84⟩, ⟨ex85, hok86⟩, hs87⟩ := St.open hs78
              have hs88 : St B w [] w77 [blk b48 (.cells [(.slice ia80 ((q31.take (((((fmtW gw gi gb).length) : Int) - (mn cut_ (((fmtW gw gi gb).length) : Int))).toNat)).length) ic81), (.slice la82 l75.length lc83), (.bool mn84)].toArray 71 (0, 0)), kU64.row ia80 ic81 (q31.take (((((fmtW gw gi gb).length) : Int) - (mn cut_ (((fmtW gw gi gb).length) : Int))).toNat)), kWr.row la82 lc83 l75, blk b66 (.cells [(.pointer (some ⟨b48, 0, none⟩)), (.int .i64 (placeOf 6 gw gi gb 0)), (.int .i64 gi)].toArray 202 (0, 0)), blk b67 (.cells [(.pointer (some ⟨b48, 0, none⟩)), (.int .i64 (placeOf 7 gw gi gb 0)), (.int .i64 gb)].toArray 202 (0, 0)), blk b65 (.cells [(.pointer (some ⟨b48, 0, none⟩)), (.int .i64 gw), (.int .i64 gi), (.int .i64 gb), (.pointer (some ⟨b66, 0, none⟩)), (.pointer (some ⟨b67, 0, none⟩))].toArray 204 (0, 0)), viewA (ptr b42) (q31.take (((((fmtW gw gi gb).length) : Int) - (mn cut_ (((fmtW gw gi gb).length) : Int))).toNat)) l76, blk b57 (.cells [(.pointer (some ⟨b42, 0, none⟩)), (.int .i64 (placeOf 6 gw gi gb 0)), (.int .i64 gi)].toArray 151 (0, 0)), blk b58 (.cells [(.pointer (some ⟨b42, 0, none⟩)), (.int .i64 (placeOf 7 gw gi gb 0)), (.int .i64 gb)].toArray 151 (0, 0)), blk b56 (.cells [(.pointer (some ⟨b42, 0, none⟩)), (.int .i64 gw), (.int .i64 gi), (.int .i64 gb), (.pointer (some ⟨b57, 0, none⟩)), (.int .i64 gi), (.pointer (some ⟨b58, 0, none⟩)), (.int .i64 gb)].toArray 188 (0, 0)), kU64.row a26 c27 (q31.take (((((fmtW gw gi gb).length) : Int) - (mn cut_ (((fmtW gw gi gb).length) : Int))).toNat)), blk b4 (.cells [(.int .i64 gw), (.int .i64 gi), (.int .i64 gb)].toArray 63 (0, 0))] := by cases ex85; exact hs87
              have := hok86.many
              have hs89 := hs88.drew
              refine W.regionD [(0, 0), (1, 1), (0, 0), (4, 4), (8, 8), (16, 16), (34, 34), (64, 64), (128, 128), (384, 384), (128, 128), (1664, 1152), (2688, 2688), (4224, 4224), (12288, 8192), (16384, 16384), (49152, 49152), (131071, 65536)] (fun w_ => St B w [] w_ [blk b48 (.cells [(.slice ia80 ((q31.take (((((fmtW gw gi gb).length) : Int) - (mn cut_ (((fmtW gw gi gb).length) : Int))).toNat)).length) ic81), (.slice la82 l75.length lc83), (.bool mn84)].toArray 71 (0, 0)), kU64.row ia80 ic81 (q31.take (((((fmtW gw gi gb).length) : Int) - (mn cut_ (((fmtW gw gi gb).length) : Int))).toNat)), kWr.row la82 lc83 l75, blk b66 (.cells [(.pointer (some ⟨b48, 0, none⟩)), (.int .i64 (placeOf 6 gw gi gb 0)), (.int .i64 gi)].toArray 202 (0, 0)), blk b67 (.cells [(.pointer (some ⟨b48, 0, none⟩)), (.int .i64 (placeOf 7 gw gi gb 0)), (.int .i64 gb)].toArray 202 (0, 0)), blk b65 (.cells [(.pointer (some ⟨b48, 0, none⟩)), (.int .i64 gw), (.int .i64 gi), (.int .i64 gb), (.pointer (some ⟨b66, 0, none⟩)), (.pointer (some ⟨b67, 0, none⟩))].toArray 204 (0, 0)), viewA (ptr b42) (q31.take (((((fmtW gw gi gb).length) : Int) - (mn cut_ (((fmtW gw gi gb).length) : Int))).toNat)) l76, blk b57 (.cells [(.pointer (some ⟨b42, 0, none⟩)), (.int .i64 (placeOf 6 gw gi gb 0)), (.int .i64 gi)].toArray 151 (0, 0)), blk b58 (.cells [(.pointer (some ⟨b42, 0, none⟩)), (.int .i64 (placeOf 7 gw gi gb 0)), (.int .i64 gb)].toArray 151 (0, 0)), blk b56 (.cells [(.pointer (some ⟨b42, 0, none⟩)), (.int .i64 gw), (.int .i64 gi), (.int .i64 gb), (.pointer (some ⟨b57, 0, none⟩)), (.int .i64 gi), (.pointer (some ⟨b58, 0, none⟩)), (.int .i64 gb)].toArray 188 (0, 0)), kU64.row a26 c27 (q31.take (((((fmtW gw gi gb).length) : Int) - (mn cut_ (((fmtW gw gi gb).length) : Int))).toNat)), blk b4 (.cells [(.int .i64 gw), (.int .i64 gi), (.int .i64 gb)].toArray 63 (0, 0))]) (by kernel_rfl) hs89 ?_
              refine any_val (v := (.pointer (some ⟨b42, 0, none⟩))) (v' := (.pointer (some ⟨b42, 0, none⟩))) 0 (by kernel_rfl) (fun _ => by kernel_rfl) rfl hs89 ?_
              refine any_val (v := (.pointer (some ⟨b48, 0, none⟩))) (v' := (.pointer (some ⟨b48, 0, none⟩))) 2 (by kernel_rfl) (fun _ => by kernel_rfl) rfl hs89 ?_
              refine any_val (v := (.pointer (some ⟨b48, 0, none⟩))) (v' := (.pointer (some ⟨b48, 0, none⟩))) 3 (by kernel_rfl) (fun _ => by kernel_rfl) rfl hs89 ?_
              refine any_val (v := (.pointer (some ⟨b48, 1, none⟩))) (v' := (.pointer (some ⟨b48, 1, none⟩))) 4 (by kernel_rfl) (fun _ => by kernel_rfl) rfl hs89 ?_
              refine any_R 5 (by kernel_rfl) (fun _ hS_ => runs_load (ad := ⟨b48, 1, none⟩) (v := (.slice la82 l75.length lc83)) (by kernel_rfl) (hS_.cellAt 0 rfl rfl)) hs89 ?_
              refine any_step 1 (by kernel_rfl) (by kernel_rfl) ?_
              refine ops_call0 hs89 (by kernel_rfl) (writes_spec (hv := (hs89.entAt 6 rfl viewA_at)) B _) ?_
              rintro _ _ w92 ⟨a90, c91, rfl, rfl⟩ hs93
              have hs94 := St.ap1 hs93
              have hs95 := St.f12 hs94
              have hs96 := St.f12 hs95
              have hs97 := St.f12 hs96
              have hs98 := St.f12 hs97
              have hs99 := St.f12 hs98
              have hs100 := St.f12 hs99
              have hs101 := St.f12 hs100
              have hs102 := St.f12 hs101
              have hs103 := St.f12 hs102
              have hs104 := St.f12 hs103
              have hs105 := St.f12 hs104
              have hs106 := St.f12 hs105
              have hs107 := St.tk12 hs106
              refine ops_done (by kernel_rfl) ⟨hs107, ?_⟩
              refine any_step 6 (by kernel_rfl) (by kernel_rfl) ?_
              obtain ⟨h108, hm⟩ := need_some hm
              refine ops_call0 hs94 (by kernel_rfl) (same05_spec (xs := l76) (ys := l75) (xc := c91) (yc := lc83) (n := l76.length) (m := l75.length) (hn := rfl) (hm := rfl) (hx := (St.kcells kWr hs94 0 rfl)) (hy := (St.kcells kWr hs94 3 rfl)) (hsz := h108) B _) ?_
              rintro _ _ w109 ⟨rfl, rfl⟩ hs110
              have hs111 := St.ap0 hs110
              have hs112 := St.f12 hs111
              have hs113 := St.f12 hs112
              have hs114 := St.f12 hs113
              have hs115 := St.f12 hs114
              have hs116 := St.f12 hs115
              have hs117 := St.f12 hs116
              have hs118 := St.f12 hs117
              have hs119 := St.f12 hs118
              have hs120 := St.f12 hs119
              have hs121 := St.f12 hs120
              have hs122 := St.f12 hs121
              have hs123 := St.f12 hs122
              have hs124 := St.tk12 hs123
              refine ops_done (by kernel_rfl) ⟨hs124, ?_⟩
              refine any_val (v := (.bool (decide (l76 = l75)))) (v' := (.bool (decide (l76 = l75)))) 7 (by kernel_rfl) (fun _ => by kernel_rfl) rfl hs124 ?_
              rcases Bool.eq_false_or_eq_true (decide (l76 = l75)) with h125 | h125
              ·
                have h125p : l76 = l75 := of_decide_eq_true h125
                replace hm := ite_yes hm h125p
                refine any_set 232 (v := .bool true) (eq_bool_of (by kernel_rfl) h125) ?_
                refine any_set 233 (v := .bool true) (eq_bool_of (by kernel_rfl) h125) ?_
                refine any_val (v := (.pointer (some ⟨b42, 0, none⟩))) (v' := (.pointer (some ⟨b42, 0, none⟩))) 8 (by kernel_rfl) (fun _ => by kernel_rfl) rfl hs124 ?_
                refine any_val (v := (.pointer (some ⟨b48, 0, none⟩))) (v' := (.pointer (some ⟨b48, 0, none⟩))) 10 (by kernel_rfl) (fun _ => by kernel_rfl) rfl hs124 ?_
                refine any_step 9 (by kernel_rfl) (by kernel_rfl) ?_
                refine ops_call0 hs111 (by kernel_rfl) (flat_spec (hv := (hs111.entAt 7 rfl viewA_at)) B _) ?_
                rintro _ _ w128 ⟨a126, c127, rfl, rfl⟩ hs129
                have hs130 := St.ap1 hs129
                have hs131 := St.f13 hs130
                have hs132 := St.f13 hs131
                have hs133 := St.f13 hs132
                have hs134 := St.f13 hs133
                have hs135 := St.f13 hs134
                have hs136 := St.f13 hs135
                have hs137 := St.f13 hs136
                have hs138 := St.f13 hs137
                have hs139 := St.f13 hs138
                have hs140 := St.f13 hs139
                have hs141 := St.f13 hs140
                have hs142 := St.f13 hs141
                have hs143 := St.tk12 hs142
                refine ops_done (by kernel_rfl) ⟨hs143, ?_⟩
                refine any_step 11 (by kernel_rfl) (by kernel_rfl) ?_
                refine ops_call0 hs130 (by kernel_rfl) (rflat_spec (hv := (show RefAt (ptr b48) (q31.take (((((fmtW gw gi gb).length) : Int) - (mn cut_ (((fmtW gw gi gb).length) : Int))).toNat)) l75 _ from ⟨⟨b48, ia80, ic81, la82, lc83, mn84⟩, rfl, hok86, hs130.heapAt 2 rfl, St.kcells kU64 hs130 3 rfl, St.kcells kWr hs130 4 rfl, St.capnil kU64 hs130 3 rfl⟩)) B _) ?_
                rintro _ _ w146 ⟨a144, c145, rfl, rfl⟩ hs147
                have hs148 := St.ap1 hs147
                have hs149 := St.f14 hs148
                have hs150 := St.f14 hs149
                have hs151 := St.f14 hs150
                have hs152 := St.f14 hs151
                have hs153 := St.f14 hs152
                have hs154 := St.f14 hs153
                have hs155 := St.f14 hs154
                have hs156 := St.f14 hs155
                have hs157 := St.f14 hs156
                have hs158 := St.f14 hs157
                have hs159 := St.f14 hs158
                have hs160 := St.f14 hs159
                have hs161 := St.tk12 hs160
                refine ops_done (by kernel_rfl) ⟨hs161, ?_⟩
                refine any_step 12 (by kernel_rfl) (by kernel_rfl) ?_
                obtain ⟨h162, hm⟩ := need_some hm
                refine ops_call0 hs148 (by kernel_rfl) (same03_spec (xs := (vflat (q31.take (((((fmtW gw gi gb).length) : Int) - (mn cut_ (((fmtW gw gi gb).length) : Int))).toNat)) l76)) (ys := (vflat (q31.take (((((fmtW gw gi gb).length) : Int) - (mn cut_ (((fmtW gw gi gb).length) : Int))).toNat)) l75)) (xc := c127) (yc := c145) (n := (vflat (q31.take (((((fmtW gw gi gb).length) : Int) - (mn cut_ (((fmtW gw gi gb).length) : Int))).toNat)) l76).length) (m := (vflat (q31.take (((((fmtW gw gi gb).length) : Int) - (mn cut_ (((fmtW gw gi gb).length) : Int))).toNat)) l75).length) (hn := rfl) (hm := rfl) (hx := (St.kcells kU64 hs148 1 rfl)) (hy := (St.kcells kU64 hs148 0 rfl)) (hsz := h162) B _) ?_
                rintro _ _ w163 ⟨rfl, rfl⟩ hs164
                have hs165 := St.ap0 hs164
                have hs166 := St.f14 hs165
                have hs167 := St.f14 hs166
                have hs168 := St.f14 hs167
                have hs169 := St.f14 hs168
                have hs170 := St.f14 hs169
                have hs171 := St.f14 hs170
                have hs172 := St.f14 hs171
                have hs173 := St.f14 hs172
                have hs174 := St.f14 hs173
                have hs175 := St.f14 hs174
                have hs176 := St.f14 hs175
                have hs177 := St.f14 hs176
                have hs178 := St.tk12 hs177
                refine ops_done (by kernel_rfl) ⟨hs178, ?_⟩
                refine any_val (v := (.bool (decide ((vflat (q31.take (((((fmtW gw gi gb).length) : Int) - (mn cut_ (((fmtW gw gi gb).length) : Int))).toNat)) l76) = (vflat (q31.take (((((fmtW gw gi gb).length) : Int) - (mn cut_ (((fmtW gw gi gb).length) : Int))).toNat)) l75))))) (v' := (.bool (decide ((vflat (q31.take (((((fmtW gw gi gb).length) : Int) - (mn cut_ (((fmtW gw gi gb).length) : Int))).toNat)) l76) = (vflat (q31.take (((((fmtW gw gi gb).length) : Int) - (mn cut_ (((fmtW gw gi gb).length) : Int))).toNat)) l75))))) 13 (by kernel_rfl) (fun _ => by kernel_rfl) rfl hs178 ?_
                refine any_val (v := (.bool (decide ((vflat (q31.take (((((fmtW gw gi gb).length) : Int) - (mn cut_ (((fmtW gw gi gb).length) : Int))).toNat)) l76) = (vflat (q31.take (((((fmtW gw gi gb).length) : Int) - (mn cut_ (((fmtW gw gi gb).length) : Int))).toNat)) l75))))) (v' := (.bool (decide ((vflat (q31.take (((((fmtW gw gi gb).length) : Int) - (mn cut_ (((fmtW gw gi gb).length) : Int))).toNat)) l76) = (vflat (q31.take (((((fmtW gw gi gb).length) : Int) - (mn cut_ (((fmtW gw gi gb).length) : Int))).toNat)) l75))))) 14 (by kernel_rfl) (fun _ => by kernel_rfl) rfl hs178 ?_
                rcases Bool.eq_false_or_eq_true (decide ((vflat (q31.take (((((fmtW gw gi gb).length) : Int) - (mn cut_ (((fmtW gw gi gb).length) : Int))).toNat)) l76) = (vflat (q31.take (((((fmtW gw gi gb).length) : Int) - (mn cut_ (((fmtW gw gi gb).length) : Int))).toNat)) l75))) with h179 | h179
                ·
                  have h179p : (vflat (q31.take (((((fmtW gw gi gb).length) : Int) - (mn cut_ (((fmtW gw gi gb).length) : Int))).toNat)) l76) = (vflat (q31.take (((((fmtW gw gi gb).length) : Int) - (mn cut_ (((fmtW gw gi gb).length) : Int))).toNat)) l75) := of_decide_eq_true h179
                  replace hm := ite_yes hm h179p
                  refine any_set 238 (v := .bool true) (eq_bool_of (by kernel_rfl) h179) ?_
                  refine any_set 239 (v := .bool true) (eq_bool_of (by kernel_rfl) h179) ?_
                  refine any_set 240 (v := .bool true) (eq_bool_of (by kernel_rfl) h179) ?_
                  refine any_step 15 (by kernel_rfl) (by kernel_rfl) ?_
                  obtain ⟨r180, h181, hm⟩ := bind_some hm
                  refine ops_call0 hs165 (by kernel_rfl) (works07_walk (hG := hG) (hT := (hs165.oldCells hT)) (hm := h181) B _) ?_
                  rintro _ _ w183 ⟨rfl, rfl⟩ hs184
                  have hs185 := St.ap0 hs184
                  have hs186 := St.f14 hs185
                  have hs187 := St.f14 hs186
                  have hs188 := St.f14 hs187
                  have hs189 := St.f14 hs188
                  have hs190 := St.f14 hs189
                  have hs191 := St.f14 hs190
                  have hs192 := St.f14 hs191
                  have hs193 := St.f14 hs192
                  have hs194 := St.f14 hs193
                  have hs195 := St.f14 hs194
                  have hs196 := St.f14 hs195
                  have hs197 := St.f14 hs196
                  have hs198 := St.tk12 hs197
                  refine ops_done (by kernel_rfl) ⟨hs198, ?_⟩
                  refine any_val (v := (.bool r180)) (v' := (.bool r180)) 16 (by kernel_rfl) (fun _ => by kernel_rfl) rfl hs198 ?_
                  refine any_val (v := (.bool r180)) (v' := (.bool r180)) 17 (by kernel_rfl) (fun _ => by kernel_rfl) rfl hs198 ?_
                  refine any_done (by kernel_rfl) ?_
                  have hs199 := St.f14 hs185
                  have hs200 := St.f14 hs199
                  have hs201 := St.f14 hs200
                  have hs202 := St.f14 hs201
                  have hs203 := St.f14 hs202
                  have hs204 := St.f14 hs203
                  have hs205 := St.f14 hs204
                  have hs206 := St.f14 hs205
                  have hs207 := St.f14 hs206
                  have hs208 := St.f11 hs207
                  have hs209 := St.f11 hs208
                  have hs210 := St.f11 hs209
                  have hs211 := St.f14 hs210
                  have hs212 := St.f14 hs211
                  have hs213 := St.f14 hs212
                  have hs214 : St B w [] w183 [refA (ptr b48) (q31.take (((((fmtW gw gi gb).length) : Int) - (mn cut_ (((fmtW gw gi gb).length) : Int))).toNat)) l75, kU64.row a144 c145 (vflat (q31.take (((((fmtW gw gi gb).length) : Int) - (mn cut_ (((fmtW gw gi gb).length) : Int))).toNat)) l75), kU64.row a126 c127 (vflat (q31.take (((((fmtW gw gi gb).length) : Int) - (mn cut_ (((fmtW gw gi gb).length) : Int))).toNat)) l76), kWr.row a90 c91 l76, blk b66 (.cells [(.pointer (some ⟨b48, 0, none⟩)), (.int .i64 (placeOf 6 gw gi gb 0)), (.int .i64 gi)].toArray 202 (0, 0)), blk b67 (.cells [(.pointer (some ⟨b48, 0, none⟩)), (.int .i64 (placeOf 7 gw gi gb 0)), (.int .i64 gb)].toArray 202 (0, 0)), blk b65 (.cells [(.pointer (some ⟨b48, 0, none⟩)), (.int .i64 gw), (.int .i64 gi), (.int .i64 gb), (.pointer (some ⟨b66, 0, none⟩)), (.pointer (some ⟨b67, 0, none⟩))].toArray 204 (0, 0)), viewA (ptr b42) (q31.take (((((fmtW gw gi gb).length) : Int) - (mn cut_ (((fmtW gw gi gb).length) : Int))).toNat)) l76, blk b57 (.cells [(.pointer (some ⟨b42, 0, none⟩)), (.int .i64 (placeOf 6 gw gi gb 0)), (.int .i64 gi)].toArray 151 (0, 0)), blk b58 (.cells [(.pointer (some ⟨b42, 0, none⟩)), (.int .i64 (placeOf 7 gw gi gb 0)), (.int .i64 gb)].toArray 151 (0, 0)), blk b56 (.cells [(.pointer (some ⟨b42, 0, none⟩)), (.int .i64 gw), (.int .i64 gi), (.int .i64 gb), (.pointer (some ⟨b57, 0, none⟩)), (.int .i64 gi), (.pointer (some ⟨b58, 0, none⟩)), (.int .i64 gb)].toArray 188 (0, 0)), kU64.row a26 c27 (q31.take (((((fmtW gw gi gb).length) : Int) - (mn cut_ (((fmtW gw gi gb).length) : Int))).toNat)), blk b4 (.cells [(.int .i64 gw), (.int .i64 gi), (.int .i64 gb)].toArray 63 (0, 0))] := ref_close (l := l75) (ia := ia80) (ic := ic81) (la := la82) (lc := lc83) (many := mn84) hok86 hs213
                  refine hK79 _ _ ?_
                  clear hK79
                  refine W.ret ?_
                  have hs215 := St.tk0 hs214
                  refine ret_of (.bool r180) (by kernel_rfl) ⟨_, ⟨congrArg Value.bool (some_inj hm), rfl⟩, hs215⟩
                ·
                  have h179p : ¬ ((vflat (q31.take (((((fmtW gw gi gb).length) : Int) - (mn cut_ (((fmtW gw gi gb).length) : Int))).toNat)) l76) = (vflat (q31.take (((((fmtW gw gi gb).length) : Int) - (mn cut_ (((fmtW gw gi gb).length) : Int))).toNat)) l75)) := of_decide_eq_false h179
                  replace hm := ite_no hm h179p
                  refine any_set 238 (v := .bool false) (eq_bool_of (by kernel_rfl) h179) ?_
                  refine any_set 239 (v := .bool false) (eq_bool_of (by kernel_rfl) h179) ?_
                  refine any_set 240 (v := .bool false) (eq_bool_of (by kernel_rfl) h179) ?_
                  refine any_skip 15 (by kernel_rfl) (by kernel_rfl) hs178 ?_
                  refine any_val (v := (.bool false)) (v' := (.bool false)) 16 (by kernel_rfl) (fun _ => by kernel_rfl) rfl hs178 ?_
                  refine any_val (v := (.bool false)) (v' := (.bool false)) 17 (by kernel_rfl) (fun _ => by kernel_rfl) rfl hs178 ?_
                  refine any_done (by kernel_rfl) ?_
                  have hs216 := St.f14 hs165
                  have hs217 := St.f14 hs216
                  have hs218 := St.f14 hs217
                  have hs219 := St.f14 hs218
                  have hs220 := St.f14 hs219
                  have hs221 := St.f14 hs220
                  have hs222 := St.f14 hs221
                  have hs223 := St.f14 hs222
                  have hs224 := St.f14 hs223
                  have hs225 := St.f11 hs224
                  have hs226 := St.f11 hs225
                  have hs227 := St.f11 hs226
                  have hs228 := St.f14 hs227
                  have hs229 := St.f14 hs228
                  have hs230 := St.f14 hs229
                  have hs231 : St B w [] w163 [refA (ptr b48) (q31.take (((((fmtW gw gi gb).length) : Int) - (mn cut_ (((fmtW gw gi gb).length) : Int))).toNat)) l75, kU64.row a144 c145 (vflat (q31.take (((((fmtW gw gi gb).length) : Int) - (mn cut_ (((fmtW gw gi gb).length) : Int))).toNat)) l75), kU64.row a126 c127 (vflat (q31.take (((((fmtW gw gi gb).length) : Int) - (mn cut_ (((fmtW gw gi gb).length) : Int))).toNat)) l76), kWr.row a90 c91 l76, blk b66 (.cells [(.pointer (some ⟨b48, 0, none⟩)), (.int .i64 (placeOf 6 gw gi gb 0)), (.int .i64 gi)].toArray 202 (0, 0)), blk b67 (.cells [(.pointer (some ⟨b48, 0, none⟩)), (.int .i64 (placeOf 7 gw gi gb 0)), (.int .i64 gb)].toArray 202 (0, 0)), blk b65 (.cells [(.pointer (some ⟨b48, 0, none⟩)), (.int .i64 gw), (.int .i64 gi), (.int .i64 gb), (.pointer (some ⟨b66, 0, none⟩)), (.pointer (some ⟨b67, 0, none⟩))].toArray 204 (0, 0)), viewA (ptr b42) (q31.take (((((fmtW gw gi gb).length) : Int) - (mn cut_ (((fmtW gw gi gb).length) : Int))).toNat)) l76, blk b57 (.cells [(.pointer (some ⟨b42, 0, none⟩)), (.int .i64 (placeOf 6 gw gi gb 0)), (.int .i64 gi)].toArray 151 (0, 0)), blk b58 (.cells [(.pointer (some ⟨b42, 0, none⟩)), (.int .i64 (placeOf 7 gw gi gb 0)), (.int .i64 gb)].toArray 151 (0, 0)), blk b56 (.cells [(.pointer (some ⟨b42, 0, none⟩)), (.int .i64 gw), (.int .i64 gi), (.int .i64 gb), (.pointer (some ⟨b57, 0, none⟩)), (.int .i64 gi), (.pointer (some ⟨b58, 0, none⟩)), (.int .i64 gb)].toArray 188 (0, 0)), kU64.row a26 c27 (q31.take (((((fmtW gw gi gb).length) : Int) - (mn cut_ (((fmtW gw gi gb).length) : Int))).toNat)), blk b4 (.cells [(.int .i64 gw), (.int .i64 gi), (.int .i64 gb)].toArray 63 (0, 0))] := ref_close (l := l75) (ia := ia80) (ic := ic81) (la := la82) (lc := lc83) (many := mn84) hok86 hs230
                  refine hK79 _ _ ?_
                  clear hK79
                  refine W.ret ?_
                  have hs232 := St.tk0 hs231
                  refine ret_of (.bool false) (by kernel_rfl) ⟨_, ⟨congrArg Value.bool (some_inj hm), rfl⟩, hs232⟩
              ·
                have h125p : ¬ (l76 = l75) := of_decide_eq_false h125
                replace hm := ite_no hm h125p
                refine any_set 232 (v := .bool false) (eq_bool_of (by kernel_rfl) h125) ?_
                refine any_set 233 (v := .bool false) (eq_bool_of (by kernel_rfl) h125) ?_
                refine any_skip 8 (by kernel_rfl) (by kernel_rfl) hs124 ?_
                refine any_skip 9 (by kernel_rfl) (by kernel_rfl) hs124 ?_
                refine any_skip 10 (by kernel_rfl) (by kernel_rfl) hs124 ?_
                refine any_skip 11 (by kernel_rfl) (by kernel_rfl) hs124 ?_
                refine any_skip 12 (by kernel_rfl) (by kernel_rfl) hs124 ?_
                refine any_val (v := (.bool false)) (v' := (.bool false)) 13 (by kernel_rfl) (fun _ => by kernel_rfl) rfl hs124 ?_
                refine any_val (v := (.bool false)) (v' := (.bool false)) 14 (by kernel_rfl) (fun _ => by kernel_rfl) rfl hs124 ?_
                refine any_skip 15 (by kernel_rfl) (by kernel_rfl) hs124 ?_
                refine any_val (v := (.bool false)) (v' := (.bool false)) 16 (by kernel_rfl) (fun _ => by kernel_rfl) rfl hs124 ?_
                refine any_val (v := (.bool false)) (v' := (.bool false)) 17 (by kernel_rfl) (fun _ => by kernel_rfl) rfl hs124 ?_
                refine any_done (by kernel_rfl) ?_
                have hs233 := St.f12 hs111
                have hs234 := St.f12 hs233
                have hs235 := St.f12 hs234
                have hs236 := St.f12 hs235
                have hs237 := St.f12 hs236
                have hs238 := St.f12 hs237
                have hs239 := St.f12 hs238
                have hs240 := St.f12 hs239
                have hs241 := St.f12 hs240
                have hs242 := St.f9 hs241
                have hs243 := St.f12 hs242
                have hs244 := St.f12 hs243
                have hs245 := St.f12 hs244
                have hs246 : St B w [] w109 [refA (ptr b48) (q31.take (((((fmtW gw gi gb).length) : Int) - (mn cut_ (((fmtW gw gi gb).length) : Int))).toNat)) l75, kWr.row a90 c91 l76, blk b66 (.cells [(.pointer (some ⟨b48, 0, none⟩)), (.int .i64 (placeOf 6 gw gi gb 0)), (.int .i64 gi)].toArray 202 (0, 0)), blk b67 (.cells [(.pointer (some ⟨b48, 0, none⟩)), (.int .i64 (placeOf 7 gw gi gb 0)), (.int .i64 gb)].toArray 202 (0, 0)), blk b65 (.cells [(.pointer (some ⟨b48, 0, none⟩)), (.int .i64 gw), (.int .i64 gi), (.int .i64 gb), (.pointer (some ⟨b66, 0, none⟩)), (.pointer (some ⟨b67, 0, none⟩))].toArray 204 (0, 0)), viewA (ptr b42) (q31.take (((((fmtW gw gi gb).length) : Int) - (mn cut_ (((fmtW gw gi gb).length) : Int))).toNat)) l76, blk b57 (.cells [(.pointer (some ⟨b42, 0, none⟩)), (.int .i64 (placeOf 6 gw gi gb 0)), (.int .i64 gi)].toArray 151 (0, 0)), blk b58 (.cells [(.pointer (some ⟨b42, 0, none⟩)), (.int .i64 (placeOf 7 gw gi gb 0)), (.int .i64 gb)].toArray 151 (0, 0)), blk b56 (.cells [(.pointer (some ⟨b42, 0, none⟩)), (.int .i64 gw), (.int .i64 gi), (.int .i64 gb), (.pointer (some ⟨b57, 0, none⟩)), (.int .i64 gi), (.pointer (some ⟨b58, 0, none⟩)), (.int .i64 gb)].toArray 188 (0, 0)), kU64.row a26 c27 (q31.take (((((fmtW gw gi gb).length) : Int) - (mn cut_ (((fmtW gw gi gb).length) : Int))).toNat)), blk b4 (.cells [(.int .i64 gw), (.int .i64 gi), (.int .i64 gb)].toArray 63 (0, 0))] := ref_close (l := l75) (ia := ia80) (ic := ic81) (la := la82) (lc := lc83) (many := mn84) hok86 hs245
                refine hK79 _ _ ?_
                clear hK79
                refine W.ret ?_
                have hs247 := St.tk0 hs246
                refine ret_of (.bool false) (by kernel_rfl) ⟨_, ⟨congrArg Value.bool (some_inj hm), rfl⟩, hs247⟩
            ·
              refine W.seq fun K248 hK248 => ?_
              refine W.region ?_
              refine ops_run 1 (by kernel_rfl) ?_
              refine ops_done (by kernel_rfl) ?_
              refine hK248 _ _ ?_
              clear hK248
              refine W.block ?_
              have hs256 := St.f9 hs70
              have hs257 := St.f9 hs256
              have hs258 := St.f5 hs257
              have hs259 := St.f7 hs258
              have hs260 := St.f7 hs259
              have hs261 := St.f9 hs260
              have hs262 := St.f6 hs261
              have hs263 := St.f8 hs262
              have hs264 := St.f8 hs263
              have hs265 := St.f9 hs264
              refine W.loop_iter (G := (List (Int × Int)) × (List (Int × Int)) × Int) (σ := (List (Int × Int)) × (List (Int × Int)) × Int) (fun | (l249, l250, p251) => (l249, l250, p251)) (fun | (l249, l250, p251), s_, w_ => (∃ us, s_ = slots 243 [(3, (.slice sa ss.length sc)), (11, (.pointer (some ⟨b42, 0, none⟩))), (12, (.pointer (some ⟨b48, 0, none⟩))), (13, (.pointer (some ⟨b56, 0, none⟩))), (15, (.pointer (some ⟨b65, 0, none⟩))), (17, (.int .i64 p251))] us) ∧ St B w [] w_ [refA (ptr b48) (q31.take (((((fmtW gw gi gb).length) : Int) - (mn cut_ (((fmtW gw gi gb).length) : Int))).toNat)) l249, blk b66 (.cells [(.pointer (some ⟨b48, 0, none⟩)), (.int .i64 (placeOf 6 gw gi gb 0)), (.int .i64 gi)].toArray 202 (0, 0)), blk b67 (.cells [(.pointer (some ⟨b48, 0, none⟩)), (.int .i64 (placeOf 7 gw gi gb 0)), (.int .i64 gb)].toArray 202 (0, 0)), blk b65 (.cells [(.pointer (some ⟨b48, 0, none⟩)), (.int .i64 gw), (.int .i64 gi), (.int .i64 gb), (.pointer (some ⟨b66, 0, none⟩)), (.pointer (some ⟨b67, 0, none⟩))].toArray 204 (0, 0)), viewA (ptr b42) (q31.take (((((fmtW gw gi gb).length) : Int) - (mn cut_ (((fmtW gw gi gb).length) : Int))).toNat)) l250, blk b57 (.cells [(.pointer (some ⟨b42, 0, none⟩)), (.int .i64 (placeOf 6 gw gi gb 0)), (.int .i64 gi)].toArray 151 (0, 0)), blk b58 (.cells [(.pointer (some ⟨b42, 0, none⟩)), (.int .i64 (placeOf 7 gw gi gb 0)), (.int .i64 gb)].toArray 151 (0, 0)), blk b56 (.cells [(.pointer (some ⟨b42, 0, none⟩)), (.int .i64 gw), (.int .i64 gi), (.int .i64 gb), (.pointer (some ⟨b57, 0, none⟩)), (.int .i64 gi), (.pointer (some ⟨b58, 0, none⟩)), (.int .i64 gb)].toArray 188 (0, 0)), kU64.row a26 c27 (q31.take (((((fmtW gw gi gb).length) : Int) - (mn cut_ (((fmtW gw gi gb).length) : Int))).toNat)), blk b4 (.cells [(.int .i64 gw), (.int .i64 gi), (.int .i64 gb)].toArray 63 (0, 0))]) ([], [], 0) ⟨slots_intro _ (by kernel_rfl), hs265⟩ hm ?_
              rintro k252 ih253 ⟨l249, l250, p251⟩ _ w254 ⟨⟨us, rfl⟩, hs255⟩ hm
              replace hm : allocplays_B1 gw gi gb cut_ ss q31 k252 l249 l250 p251 = some true := hm
              unfold allocplays_B1 at hm
              refine W.seq fun K266 hK266 => ?_
              refine W.seq fun K267 hK267 => ?_
              refine W.region ?_
              refine ops_run 4 (by kernel_rfl) ?_
              refine ops_done (by kernel_rfl) ?_
              refine hK267 _ _ ?_
              clear hK267
              refine W.cond (decide (p251 < (ss.length : Int))) (by kernel_rfl) (fun h268 => ?_) (fun h268 => ?_)
              ·
                have h268p : p251 < (ss.length : Int) := of_decide_eq_true h268
                replace hm := ite_yes hm h268p
                refine W.skip ?_
                refine hK266 _ _ ?_
                clear hK266
                refine W.seq fun K269 hK269 => ?_
                refine W.block ?_
                refine W.seq fun K270 hK270 => ?_
                refine W.region ?_
                refine ops_run 2 (by kernel_rfl) ?_
                obtain ⟨h272, hm⟩ := need_some hm
                have hk271 := lt_toNat h272
                refine ops_R (runs_index (a := sa) (n := ss.length) (z := p251) (size := 3) p251.toNat (nat_of h272.1) hk271 (kSt7.addr (hs255.oldCells hst) hk271) (by kernel_rfl)) ?_
                refine ops_R (runs_loadAgg (cs := [(.int .u8 ((ss.getD p251.toNat dSt7).c0)), (.int .i64 ((ss.getD p251.toNat dSt7).c1)), (.bool ((ss.getD p251.toNat dSt7).c2))]) (by kernel_rfl) (kSt7.all (hs255.oldCells hst) hk271 dSt7 0 rfl)) ?_
                refine ops_new (fun b => .pointer (some ⟨b, 0, none⟩)) (.cells [(.int .u8 0), (.int .i64 0), (.bool false)].toArray 136 (0, 0)) hs255 (by kernel_rfl) (fun b275 w273 hs274 => ?_)
                refine ops_store (off := 0) (cs := [(.int .u8 0), (.int .i64 0), (.bool false)]) (vs := [(.int .u8 ((ss.getD p251.toNat dSt7).c0)), (.int .i64 ((ss.getD p251.toNat dSt7).c1)), (.bool ((ss.getD p251.toNat dSt7).c2))]) hs274 (by kernel_rfl) (by simp) rfl (fun w276 hs277 => ?_)
                have hs278 : St B w [] w276 [blk b275 (.cells [(.int .u8 ((ss.getD p251.toNat dSt7).c0)), (.int .i64 ((ss.getD p251.toNat dSt7).c1)), (.bool ((ss.getD p251.toNat dSt7).c2))].toArray 136 (0, 0)), refA (ptr b48) (q31.take (((((fmtW gw gi gb).length) : Int) - (mn cut_ (((fmtW gw gi gb).length) : Int))).toNat)) l249, blk b66 (.cells [(.pointer (some ⟨b48, 0, none⟩)), (.int .i64 (placeOf 6 gw gi gb 0)), (.int .i64 gi)].toArray 202 (0, 0)), blk b67 (.cells [(.pointer (some ⟨b48, 0, none⟩)), (.int .i64 (placeOf 7 gw gi gb 0)), (.int .i64 gb)].toArray 202 (0, 0)), blk b65 (.cells [(.pointer (some ⟨b48, 0, none⟩)), (.int .i64 gw), (.int .i64 gi), (.int .i64 gb), (.pointer (some ⟨b66, 0, none⟩)), (.pointer (some ⟨b67, 0, none⟩))].toArray 204 (0, 0)), viewA (ptr b42) (q31.take (((((fmtW gw gi gb).length) : Int) - (mn cut_ (((fmtW gw gi gb).length) : Int))).toNat)) l250, blk b57 (.cells [(.pointer (some ⟨b42, 0, none⟩)), (.int .i64 (placeOf 6 gw gi gb 0)), (.int .i64 gi)].toArray 151 (0, 0)), blk b58 (.cells [(.pointer (some ⟨b42, 0, none⟩)), (.int .i64 (placeOf 7 gw gi gb 0)), (.int .i64 gb)].toArray 151 (0, 0)), blk b56 (.cells [(.pointer (some ⟨b42, 0, none⟩)), (.int .i64 gw), (.int .i64 gi), (.int .i64 gb), (.pointer (some ⟨b57, 0, none⟩)), (.int .i64 gi), (.pointer (some ⟨b58, 0, none⟩)), (.int .i64 gb)].toArray 188 (0, 0)), kU64.row a26 c27 (q31.take (((((fmtW gw gi gb).length) : Int) - (mn cut_ (((fmtW gw gi gb).length) : Int))).toNat)), blk b4 (.cells [(.int .i64 gw), (.int .i64 gi), (.int .i64 gb)].toArray 63 (0, 0))] := hs277
                refine ops_done (by kernel_rfl) ?_
                refine hK270 _ _ ?_
                clear hK270
                refine W.seq_join (fun s_ w_ => ∃ (l279 : List (Int × Int)) (l280 : List (Int × Int)), (∃ us, s_ = slots 243 [(3, (.slice sa ss.length sc)), (11, (.pointer (some ⟨b42, 0, none⟩))), (12, (.pointer (some ⟨b48, 0, none⟩))), (13, (.pointer (some ⟨b56, 0, none⟩))), (15, (.pointer (some ⟨b65, 0, none⟩))), (17, (.int .i64 p251)), (18, (.pointer (some ⟨b275, 0, none⟩)))] us) ∧ St B w [] w_ [blk b275 (.cells [(.int .u8 ((ss.getD p251.toNat dSt7).c0)), (.int .i64 ((ss.getD p251.toNat dSt7).c1)), (.bool ((ss.getD p251.toNat dSt7).c2))].toArray 136 (0, 0)), refA (ptr b48) (q31.take (((((fmtW gw gi gb).length) : Int) - (mn cut_ (((fmtW gw gi gb).length) : Int))).toNat)) l279, blk b66 (.cells [(.pointer (some ⟨b48, 0, none⟩)), (.int .i64 (placeOf 6 gw gi gb 0)), (.int .i64 gi)].toArray 202 (0, 0)), blk b67 (.cells [(.pointer (some ⟨b48, 0, none⟩)), (.int .i64 (placeOf 7 gw gi gb 0)), (.int .i64 gb)].toArray 202 (0, 0)), blk b65 (.cells [(.pointer (some ⟨b48, 0, none⟩)), (.int .i64 gw), (.int .i64 gi), (.int .i64 gb), (.pointer (some ⟨b66, 0, none⟩)), (.pointer (some ⟨b67, 0, none⟩))].toArray 204 (0, 0)), viewA (ptr b42) (q31.take (((((fmtW gw gi gb).length) : Int) - (mn cut_ (((fmtW gw gi gb).length) : Int))).toNat)) l280, blk b57 (.cells [(.pointer (some ⟨b42, 0, none⟩)), (.int .i64 (placeOf 6 gw gi gb 0)), (.int .i64 gi)].toArray 151 (0, 0)), blk b58 (.cells [(.pointer (some ⟨b42, 0, none⟩)), (.int .i64 (placeOf 7 gw gi gb 0)), (.int .i64 gb)].toArray 151 (0, 0)), blk b56 (.cells [(.pointer (some ⟨b42, 0, none⟩)), (.int .i64 gw), (.int .i64 gi), (.int .i64 gb), (.pointer (some ⟨b57, 0, none⟩)), (.int .i64 gi), (.pointer (some ⟨b58, 0, none⟩)), (.int .i64 gb)].toArray 188 (0, 0)), kU64.row a26 c27 (q31.take (((((fmtW gw gi gb).length) : Int) - (mn cut_ (((fmtW gw gi gb).length) : Int))).toNat)), blk b4 (.cells [(.int .i64 gw), (.int .i64 gi), (.int .i64 gb)].toArray 63 (0, 0))] ∧ allocplays_J4 gw gi gb cut_ ss q31 k252 p251 l279 l280 = some true) ?_ ?_
                ·
                  rintro _ w281 ⟨l279, l280, ⟨us, rfl⟩, hs282, hm⟩
                  unfold allocplays_J4 at hm
                  refine W.seq fun K283 hK283 => ?_
                  refine W.region ?_
                  refine ops_run 1 (by kernel_rfl) ?_
                  refine ops_done (by kernel_rfl) ?_
                  refine hK283 _ _ ?_
                  clear hK283
                  refine W.seq_join (fun s_ w_ => ∃ (l284 : List (Int × Int)) (l285 : List (Int × Int)) (p286 : Bool), (∃ us, s_ = slots 243 [(3, (.slice sa ss.length sc)), (11, (.pointer (some ⟨b42, 0, none⟩))), (12, (.pointer (some ⟨b48, 0, none⟩))), (13, (.pointer (some ⟨b56, 0, none⟩))), (15, (.pointer (some ⟨b65, 0, none⟩))), (17, (.int .i64 p251)), (19, (.bool p286))] us) ∧ St B w [] w_ [blk b275 (.cells [(.int .u8 ((ss.getD p251.toNat dSt7).c0)), (.int .i64 ((ss.getD p251.toNat dSt7).c1)), (.bool ((ss.getD p251.toNat dSt7).c2))].toArray 136 (0, 0)), refA (ptr b48) (q31.take (((((fmtW gw gi gb).length) : Int) - (mn cut_ (((fmtW gw gi gb).length) : Int))).toNat)) l284, blk b66 (.cells [(.pointer (some ⟨b48, 0, none⟩)), (.int .i64 (placeOf 6 gw gi gb 0)), (.int .i64 gi)].toArray 202 (0, 0)), blk b67 (.cells [(.pointer (some ⟨b48, 0, none⟩)), (.int .i64 (placeOf 7 gw gi gb 0)), (.int .i64 gb)].toArray 202 (0, 0)), blk b65 (.cells [(.pointer (some ⟨b48, 0, none⟩)), (.int .i64 gw), (.int .i64 gi), (.int .i64 gb), (.pointer (some ⟨b66, 0, none⟩)), (.pointer (some ⟨b67, 0, none⟩))].toArray 204 (0, 0)), viewA (ptr b42) (q31.take (((((fmtW gw gi gb).length) : Int) - (mn cut_ (((fmtW gw gi gb).length) : Int))).toNat)) l285, blk b57 (.cells [(.pointer (some ⟨b42, 0, none⟩)), (.int .i64 (placeOf 6 gw gi gb 0)), (.int .i64 gi)].toArray 151 (0, 0)), blk b58 (.cells [(.pointer (some ⟨b42, 0, none⟩)), (.int .i64 (placeOf 7 gw gi gb 0)), (.int .i64 gb)].toArray 151 (0, 0)), blk b56 (.cells [(.pointer (some ⟨b42, 0, none⟩)), (.int .i64 gw), (.int .i64 gi), (.int .i64 gb), (.pointer (some ⟨b57, 0, none⟩)), (.int .i64 gi), (.pointer (some ⟨b58, 0, none⟩)), (.int .i64 gb)].toArray 188 (0, 0)), kU64.row a26 c27 (q31.take (((((fmtW gw gi gb).length) : Int) - (mn cut_ (((fmtW gw gi gb).length) : Int))).toNat)), blk b4 (.cells [(.int .i64 gw), (.int .i64 gi), (.int .i64 gb)].toArray 63 (0, 0))] ∧ allocplays_J5 gw gi gb cut_ q31 k252 p251 l284 l285 p286 = some true) ?_ ?_
                  ·
                    rintro _ w287 ⟨l284, l285, p286, ⟨us, rfl⟩, hs288, hm⟩
                    unfold allocplays_J5 at hm
                    refine W.seq fun K289 hK289 => ?_
                    refine W.region ?_
                    refine ops_run 1 (by kernel_rfl) ?_
                    obtain ⟨r290, h291, hm⟩ := bind_some hm
                    refine ops_call0 hs288 (by kernel_rfl) (afree_walk (hab := (hs288.heapAt 8 rfl)) (hib := (hs288.heapAt 6 rfl)) (hbb := (hs288.heapAt 7 rfl)) (hv := (hs288.entAt 5 rfl viewA_at)) (hm := h291) B _) ?_
                    rintro _ _ w292 ⟨rfl, rfl⟩ hs293
                    have hs294 := St.ap0 hs293
                    refine ops_run 5 (by kernel_rfl) ?_
                    refine ops_done (by kernel_rfl) ?_
                    refine hK289 _ _ ?_
                    clear hK289
                    refine W.seq fun K295 hK295 => ?_
                    refine W.region ?_
                    refine ops_run 1 (by kernel_rfl) ?_
                    obtain ⟨r296, h297, hm⟩ := bind_some hm
                    refine ops_call0 hs294 (by kernel_rfl) (rfree_walk (hab := (hs294.heapAt 4 rfl)) (hib := (hs294.heapAt 2 rfl)) (hbb := (hs294.heapAt 3 rfl)) (hv := (hs294.entAt 1 rfl refA_at)) (hm := h297) B _) ?_
                    rintro _ _ w298 ⟨rfl, rfl⟩ hs299
                    have hs300 := St.ap0 hs299
                    refine ops_run 5 (by kernel_rfl) ?_
                    refine ops_done (by kernel_rfl) ?_
                    refine hK295 _ _ ?_
                    clear hK295
                    refine W.seq fun K301 hK301 => ?_
                    refine W.region ?_
                    refine ops_run 3 (by kernel_rfl) ?_
                    rcases Bool.eq_false_or_eq_true (!p286) with h302 | h302
                    rotate_left
                    ·
                      have h302p : p286 = true := (bnot_false h302)
                      replace hm := ite_yes hm h302p
                      refine ops_set 216 (v := .bool false) (eq_bool_of (by kernel_rfl) h302) ?_
                      refine ops_set 215 (v := .bool false) (eq_bool_of (by kernel_rfl) h302) ?_
                      refine ops_run 5 (by kernel_rfl) ?_
                      rcases Bool.eq_false_or_eq_true (!decide (r290.1 = r296.1)) with h303 | h303
                      rotate_left
                      ·
                        have h303p : r290.1 = r296.1 := of_decide_eq_true (bnot_false h303)
                        replace hm := ite_yes hm h303p
                        refine ops_set 221 (v := .bool false) (eq_bool_of (by kernel_rfl) h303) ?_
                        refine ops_set 219 (v := .bool false) (eq_bool_of (by kernel_rfl) h303) ?_
                        refine ops_set 220 (v := .bool false) (eq_bool_of (by kernel_rfl) h303) ?_
                        refine ops_run 4 (by kernel_rfl) ?_
                        refine ops_done (by kernel_rfl) ?_
                        refine hK301 _ _ ?_
                        clear hK301
                        refine W.cond (!decide (r290.2 = r296.2)) (by kernel_rfl) (fun h304 => ?_) (fun h304 => ?_)
                        rotate_left
                        ·
                          have h304p : r290.2 = r296.2 := of_decide_eq_true (bnot_false h304)
                          replace hm := ite_yes hm h304p
                          refine W.skip ?_
                          refine normal_block ?_
                          refine hK269 _ _ ?_
                          clear hK269
                          refine W.region ?_
                          refine ops_run 1 (by kernel_rfl) ?_
                          obtain ⟨h305, hm⟩ := need_some hm
                          refine ops_val (v := .int .i64 (IntKind.i64.wrap (p251 + 1))) (v' := .int .i64 (p251 + 1)) (by kernel_rfl) (congrArg (Value.int .i64) (wrap_i64 h305.1 h305.2)) ?_
                          refine ops_run 1 (by kernel_rfl) ?_
                          refine ops_done (by kernel_rfl) ?_
                          have hs306 := St.f10 hs300
                          have hs307 := St.f10 hs306
                          have hs308 := St.f10 hs307
                          have hs309 := St.f10 hs308
                          have hs310 := St.f10 hs309
                          have hs311 := St.f10 hs310
                          have hs312 := St.f10 hs311
                          have hs313 := St.f10 hs312
                          have hs314 := St.f10 hs313
                          have hs315 := St.f10 hs314
                          have hs316 := St.tk10 hs315
                          refine loopAt_next ?_
                          exact ih253 (l284, l285, (p251 + 1)) _ _ ⟨slots_intro _ (by kernel_rfl), hs316⟩ hm
                        ·
                          have h304p : ¬ (r290.2 = r296.2) := of_decide_eq_false (bnot_true h304)
                          replace hm := ite_no hm h304p
                          refine W.seq fun K317 hK317 => ?_
                          refine W.region ?_
                          refine ops_run 1 (by kernel_rfl) ?_
                          refine ops_done (by kernel_rfl) ?_
                          refine hK317 _ _ ?_
                          clear hK317
                          refine W.ret (ret_block (ret_seq (ret_seq (ret_block (ret_seq ?_)))))
                          have hs318 := St.tk0 hs300
                          refine ret_of (.bool false) (by kernel_rfl) ⟨_, ⟨congrArg Value.bool (some_inj hm), rfl⟩, hs318⟩
                      ·
                        have h303p : ¬ (r290.1 = r296.1) := of_decide_eq_false (bnot_true h303)
                        replace hm := ite_no hm h303p
                        refine ops_set 221 (v := .bool true) (eq_bool_of (by kernel_rfl) h303) ?_
                        refine ops_set 219 (v := .bool true) (eq_bool_of (by kernel_rfl) h303) ?_
                        refine ops_set 220 (v := .bool true) (eq_bool_of (by kernel_rfl) h303) ?_
                        refine ops_run 4 (by kernel_rfl) ?_
                        refine ops_done (by kernel_rfl) ?_
                        refine hK301 _ _ ?_
                        clear hK301
                        refine W.cond_true true (by kernel_rfl) rfl ?_
                        refine W.seq fun K319 hK319 => ?_
                        refine W.region ?_
                        refine ops_run 1 (by kernel_rfl) ?_
                        refine ops_done (by kernel_rfl) ?_
                        refine hK319 _ _ ?_
                        clear hK319
                        refine W.ret (ret_block (ret_seq (ret_seq (ret_block (ret_seq ?_)))))
                        have hs320 := St.tk0 hs300
                        refine ret_of (.bool false) (by kernel_rfl) ⟨_, ⟨congrArg Value.bool (some_inj hm), rfl⟩, hs320⟩
                    ·
                      have h302p : ¬ (p286 = true) := ne_true_of_eq_false (bnot_true h302)
                      replace hm := ite_no hm h302p
                      refine ops_set 216 (v := .bool true) (eq_bool_of (by kernel_rfl) h302) ?_
                      refine ops_set 215 (v := .bool true) (eq_bool_of (by kernel_rfl) h302) ?_
                      refine ops_run 9 (by kernel_rfl) ?_
                      refine ops_done (by kernel_rfl) ?_
                      refine hK301 _ _ ?_
                      clear hK301
                      refine W.cond_true true (by kernel_rfl) rfl ?_
                      refine W.seq fun K321 hK321 => ?_
                      refine W.region ?_
                      refine ops_run 1 (by kernel_rfl) ?_
                      refine ops_done (by kernel_rfl) ?_
                      refine hK321 _ _ ?_
                      clear hK321
                      refine W.ret (ret_block (ret_seq (ret_seq (ret_block (ret_seq ?_)))))
                      have hs322 := St.tk0 hs300
                      refine ret_of (.bool false) (by kernel_rfl) ⟨_, ⟨congrArg Value.bool (some_inj hm), rfl⟩, hs322⟩
                  ·
                    refine W.seq fun K323 hK323 => ?_
                    refine W.region ?_
                    refine ops_run 1 (by kernel_rfl) ?_
                    refine ops_R (runs_load (ad := ⟨b275, 0, none⟩) (v := (.int .u8 ((ss.getD p251.toNat dSt7).c0))) (by kernel_rfl) (hs282.cellAt 0 rfl rfl)) ?_
                    refine ops_run 1 (by kernel_rfl) ?_
                    refine ops_done (by kernel_rfl) ?_
                    refine hK323 _ _ ?_
                    clear hK323
                    refine W.block ?_
                    refine W.seq fun K324 hK324 => ?_
                    refine W.region ?_
                    refine ops_run 2 (by kernel_rfl) ?_
                    refine ops_done (by kernel_rfl) ?_
                    refine hK324 _ _ ?_
                    clear hK324
                    refine W.cond (decide (((ss.getD p251.toNat dSt7).c0).tmod 5 = 0)) (by kernel_rfl) (fun h325 => ?_) (fun h325 => ?_)
                    ·
                      have h325p : ((ss.getD p251.toNat dSt7).c0).tmod 5 = 0 := of_decide_eq_true h325
                      replace hm := ite_yes hm h325p
                      refine W.seq fun K326 hK326 => ?_
                      refine W.region ?_
                      refine ops_run 1 (by kernel_rfl) ?_
                      obtain ⟨r327, h328, hm⟩ := bind_some hm
                      have hs329 := St.f5 hs282
                      have hs330 := St.f7 hs329
                      have hs331 := St.f7 hs330
                      have hs332 := St.f8 hs331
                      refine ops_call4 hs332 (by kernel_rfl) (atakei_walk (ab := b56) (ib := b57) (bb := b58) (vb := b42) (img := (q31.take (((((fmtW gw gi gb).length) : Int) - (mn cut_ (((fmtW gw gi gb).length) : Int))).toNat))) (l := l280) (gw := gw) (gi := gi) (gb := gb) (ia := (placeOf 6 gw gi gb 0)) (ba := (placeOf 7 gw gi gb 0)) (hG := hG) (hT := (hs282.oldCells hT)) (hm := h328) B _) ?_
                      rintro _ _ w333 ⟨rfl, rfl⟩ hs334
                      have hs335 := St.ap4 hs334
                      refine ops_run 5 (by kernel_rfl) ?_
                      refine ops_done (by kernel_rfl) ?_
                      refine hK326 _ _ ?_
                      clear hK326
                      refine W.seq fun K336 hK336 => ?_
                      refine W.region ?_
                      refine ops_run 1 (by kernel_rfl) ?_
                      obtain ⟨r337, h338, hm⟩ := bind_some hm
                      have hs339 := St.f5 hs335
                      have hs340 := St.f7 hs339
                      have hs341 := St.f7 hs340
                      have hs342 := St.f8 hs341
                      refine ops_call4 hs342 (by kernel_rfl) (rtakei_walk (ab := b65) (ib := b66) (bb := b67) (vb := b48) (img := (q31.take (((((fmtW gw gi gb).length) : Int) - (mn cut_ (((fmtW gw gi gb).length) : Int))).toNat))) (l := l279) (gw := gw) (gi := gi) (gb := gb) (ia := (placeOf 6 gw gi gb 0)) (ba := (placeOf 7 gw gi gb 0)) (hm := h338) B _) ?_
                      rintro _ _ w343 ⟨rfl, rfl⟩ hs344
                      have hs345 := St.ap4 hs344
                      refine ops_run 5 (by kernel_rfl) ?_
                      refine ops_done (by kernel_rfl) ?_
                      refine hK336 _ _ ?_
                      clear hK336
                      refine W.region ?_
                      refine ops_run 4 (by kernel_rfl) ?_
                      rcases Bool.eq_false_or_eq_true (decide (r327.1 = r337.1)) with h346 | h346
                      ·
                        have h346p : r327.1 = r337.1 := of_decide_eq_true h346
                        replace hm := ite_yes hm h346p
                        refine ops_set 157 (v := .bool true) (eq_bool_of (by kernel_rfl) h346) ?_
                        refine ops_set 156 (v := .bool true) (eq_bool_of (by kernel_rfl) h346) ?_
                        refine ops_run 5 (by kernel_rfl) ?_
                        refine ops_done (by kernel_rfl) ?_
                        refine normal_block ?_
                        have hs347 := St.f10 hs345
                        have hs348 := St.f10 hs347
                        have hs349 := St.f6 hs348
                        have hs350 := St.f8 hs349
                        have hs351 := St.f8 hs350
                        have hs352 := St.f9 hs351
                        have hs353 := St.f6 hs352
                        have hs354 := St.f8 hs353
                        have hs355 := St.f8 hs354
                        have hs356 := St.f9 hs355
                        have hs357 := St.f10 hs356
                        exact ⟨r337.2.2, r327.2.2, (decide (r327.2.1 = r337.2.1)), slots_intro _ (by kernel_rfl), hs357, hm⟩
                      ·
                        have h346p : ¬ (r327.1 = r337.1) := of_decide_eq_false h346
                        replace hm := ite_no hm h346p
                        refine ops_set 157 (v := .bool false) (eq_bool_of (by kernel_rfl) h346) ?_
                        refine ops_set 156 (v := .bool false) (eq_bool_of (by kernel_rfl) h346) ?_
                        refine ops_run 5 (by kernel_rfl) ?_
                        refine ops_done (by kernel_rfl) ?_
                        refine normal_block ?_
                        have hs358 := St.f10 hs345
                        have hs359 := St.f10 hs358
                        have hs360 := St.f6 hs359
                        have hs361 := St.f8 hs360
                        have hs362 := St.f8 hs361
                        have hs363 := St.f9 hs362
                        have hs364 := St.f6 hs363
                        have hs365 := St.f8 hs364
                        have hs366 := St.f8 hs365
                        have hs367 := St.f9 hs366
                        have hs368 := St.f10 hs367
                        exact ⟨r337.2.2, r327.2.2, false, slots_intro _ (by kernel_rfl), hs368, hm⟩
                    ·
                      have h325p : ¬ (((ss.getD p251.toNat dSt7).c0).tmod 5 = 0) := of_decide_eq_false h325
                      replace hm := ite_no hm h325p
                      refine W.seq fun K369 hK369 => ?_
                      refine W.region ?_
                      refine ops_run 2 (by kernel_rfl) ?_
                      refine ops_done (by kernel_rfl) ?_
                      refine hK369 _ _ ?_
                      clear hK369
                      refine W.cond (decide (((ss.getD p251.toNat dSt7).c0).tmod 5 = 1)) (by kernel_rfl) (fun h370 => ?_) (fun h370 => ?_)
                      ·
                        have h370p : ((ss.getD p251.toNat dSt7).c0).tmod 5 = 1 := of_decide_eq_true h370
                        replace hm := ite_yes hm h370p
                        refine W.seq fun K371 hK371 => ?_
                        refine W.region ?_
                        refine ops_run 1 (by kernel_rfl) ?_
                        obtain ⟨r372, h373, hm⟩ := bind_some hm
                        have hs374 := St.f5 hs282
                        have hs375 := St.f7 hs374
                        have hs376 := St.f7 hs375
                        have hs377 := St.f8 hs376
                        refine ops_call4 hs377 (by kernel_rfl) (atakeb_walk (ab := b56) (ib := b57) (bb := b58) (vb := b42) (img := (q31.take (((((fmtW gw gi gb).length) : Int) - (mn cut_ (((fmtW gw gi gb).length) : Int))).toNat))) (l := l280) (gw := gw) (gi := gi) (gb := gb) (ia := (placeOf 6 gw gi gb 0)) (ba := (placeOf 7 gw gi gb 0)) (hG := hG) (hT := (hs282.oldCells hT)) (hm := h373) B _) ?_
                        rintro _ _ w378 ⟨rfl, rfl⟩ hs379
                        have hs380 := St.ap4 hs379
                        refine ops_run 5 (by kernel_rfl) ?_
                        refine ops_done (by kernel_rfl) ?_
                        refine hK371 _ _ ?_
                        clear hK371
                        refine W.seq fun K381 hK381 => ?_
                        refine W.region ?_
                        refine ops_run 1 (by kernel_rfl) ?_
                        obtain ⟨r382, h383, hm⟩ := bind_some hm
                        have hs384 := St.f5 hs380
                        have hs385 := St.f7 hs384
                        have hs386 := St.f7 hs385
                        have hs387 := St.f8 hs386
                        refine ops_call4 hs387 (by kernel_rfl) (rtakeb_walk (ab := b65) (ib := b66) (bb := b67) (vb := b48) (img := (q31.take (((((fmtW gw gi gb).length) : Int) - (mn cut_ (((fmtW gw gi gb).length) : Int))).toNat))) (l := l279) (gw := gw) (gi := gi) (gb := gb) (ia := (placeOf 6 gw gi gb 0)) (ba := (placeOf 7 gw gi gb 0)) (hm := h383) B _) ?_
                        rintro _ _ w388 ⟨rfl, rfl⟩ hs389
                        have hs390 := St.ap4 hs389
                        refine ops_run 5 (by kernel_rfl) ?_
                        refine ops_done (by kernel_rfl) ?_
                        refine hK381 _ _ ?_
                        clear hK381
                        refine W.region ?_
                        refine ops_run 4 (by kernel_rfl) ?_
                        rcases Bool.eq_false_or_eq_true (decide (r372.1 = r382.1)) with h391 | h391
                        ·
                          have h391p : r372.1 = r382.1 := of_decide_eq_true h391
                          replace hm := ite_yes hm h391p
                          refine ops_set 177 (v := .bool true) (eq_bool_of (by kernel_rfl) h391) ?_
                          refine ops_set 176 (v := .bool true) (eq_bool_of (by kernel_rfl) h391) ?_
                          refine ops_run 5 (by kernel_rfl) ?_
                          refine ops_done (by kernel_rfl) ?_
                          refine normal_block ?_
                          have hs392 := St.f10 hs390
                          have hs393 := St.f10 hs392
                          have hs394 := St.f6 hs393
                          have hs395 := St.f8 hs394
                          have hs396 := St.f8 hs395
                          have hs397 := St.f9 hs396
                          have hs398 := St.f6 hs397
                          have hs399 := St.f8 hs398
                          have hs400 := St.f8 hs399
                          have hs401 := St.f9 hs400
                          have hs402 := St.f10 hs401
                          exact ⟨r382.2.2, r372.2.2, (decide (r372.2.1 = r382.2.1)), slots_intro _ (by kernel_rfl), hs402, hm⟩
                        ·
                          have h391p : ¬ (r372.1 = r382.1) := of_decide_eq_false h391
                          replace hm := ite_no hm h391p
                          refine ops_set 177 (v := .bool false) (eq_bool_of (by kernel_rfl) h391) ?_
                          refine ops_set 176 (v := .bool false) (eq_bool_of (by kernel_rfl) h391) ?_
                          refine ops_run 5 (by kernel_rfl) ?_
                          refine ops_done (by kernel_rfl) ?_
                          refine normal_block ?_
                          have hs403 := St.f10 hs390
                          have hs404 := St.f10 hs403
                          have hs405 := St.f6 hs404
                          have hs406 := St.f8 hs405
                          have hs407 := St.f8 hs406
                          have hs408 := St.f9 hs407
                          have hs409 := St.f6 hs408
                          have hs410 := St.f8 hs409
                          have hs411 := St.f8 hs410
                          have hs412 := St.f9 hs411
                          have hs413 := St.f10 hs412
                          exact ⟨r382.2.2, r372.2.2, false, slots_intro _ (by kernel_rfl), hs413, hm⟩
                      ·
                        have h370p : ¬ (((ss.getD p251.toNat dSt7).c0).tmod 5 = 1) := of_decide_eq_false h370
                        replace hm := ite_no hm h370p
                        refine W.seq fun K414 hK414 => ?_
                        refine W.region ?_
                        refine ops_run 2 (by kernel_rfl) ?_
                        refine ops_done (by kernel_rfl) ?_
                        refine hK414 _ _ ?_
                        clear hK414
                        refine W.cond (decide (((ss.getD p251.toNat dSt7).c0).tmod 5 = 2)) (by kernel_rfl) (fun h415 => ?_) (fun h415 => ?_)
                        ·
                          have h415p : ((ss.getD p251.toNat dSt7).c0).tmod 5 = 2 := of_decide_eq_true h415
                          replace hm := ite_yes hm h415p
                          have hs416 := hs282.drew
                          have hs417 := St.f10 hs416
                          have hs418 := St.f10 hs417
                          have hs419 := St.f10 hs418
                          have hs420 := St.f10 hs419
                          have hs421 := St.f10 hs420
                          have hs422 := St.f9 hs421
                          have hs423 := St.f9 hs422
                          have hs424 := St.f9 hs423
                          have hs425 := St.f8 hs424
                          have hs426 := St.tk9 hs425
                          refine W.regionD [(0, 0), (0, 0), (2, 2), (5, 5), (0, 0), (0, 0), (32, 32), (88, 80), (136, 136), (511, 256)] (fun w_ => St B w [] w_ [blk b275 (.cells [(.int .u8 ((ss.getD p251.toNat dSt7).c0)), (.int .i64 ((ss.getD p251.toNat dSt7).c1)), (.bool ((ss.getD p251.toNat dSt7).c2))].toArray 136 (0, 0)), blk b66 (.cells [(.pointer (some ⟨b48, 0, none⟩)), (.int .i64 (placeOf 6 gw gi gb 0)), (.int .i64 gi)].toArray 202 (0, 0)), blk b67 (.cells [(.pointer (some ⟨b48, 0, none⟩)), (.int .i64 (placeOf 7 gw gi gb 0)), (.int .i64 gb)].toArray 202 (0, 0)), blk b65 (.cells [(.pointer (some ⟨b48, 0, none⟩)), (.int .i64 gw), (.int .i64 gi), (.int .i64 gb), (.pointer (some ⟨b66, 0, none⟩)), (.pointer (some ⟨b67, 0, none⟩))].toArray 204 (0, 0)), blk b57 (.cells [(.pointer (some ⟨b42, 0, none⟩)), (.int .i64 (placeOf 6 gw gi gb 0)), (.int .i64 gi)].toArray 151 (0, 0)), blk b58 (.cells [(.pointer (some ⟨b42, 0, none⟩)), (.int .i64 (placeOf 7 gw gi gb 0)), (.int .i64 gb)].toArray 151 (0, 0)), blk b56 (.cells [(.pointer (some ⟨b42, 0, none⟩)), (.int .i64 gw), (.int .i64 gi), (.int .i64 gb), (.pointer (some ⟨b57, 0, none⟩)), (.int .i64 gi), (.pointer (some ⟨b58, 0, none⟩)), (.int .i64 gb)].toArray 188 (0, 0)), kU64.row a26 c27 (q31.take (((((fmtW gw gi gb).length) : Int) - (mn cut_ (((fmtW gw gi gb).length) : Int))).toNat)), blk b4 (.cells [(.int .i64 gw), (.int .i64 gi), (.int .i64 gb)].toArray 63 (0, 0))]) (by kernel_rfl) hs426 ?_
                          refine any_val (v := (.pointer (some ⟨b56, 0, none⟩))) (v' := (.pointer (some ⟨b56, 0, none⟩))) 0 (by kernel_rfl) (fun _ => by kernel_rfl) rfl hs426 ?_
                          refine any_val (v := (.pointer (some ⟨b275, 1, none⟩))) (v' := (.pointer (some ⟨b275, 1, none⟩))) 1 (by kernel_rfl) (fun _ => by kernel_rfl) rfl hs426 ?_
                          refine any_R 2 (by kernel_rfl) (fun _ hS_ => runs_load (ad := ⟨b275, 1, none⟩) (v := (.int .i64 ((ss.getD p251.toNat dSt7).c1))) (by kernel_rfl) (hS_.cellAt 0 rfl rfl)) hs426 ?_
                          refine any_val (v := (.pointer (some ⟨b65, 0, none⟩))) (v' := (.pointer (some ⟨b65, 0, none⟩))) 4 (by kernel_rfl) (fun _ => by kernel_rfl) rfl hs426 ?_
                          refine any_val (v := (.pointer (some ⟨b275, 1, none⟩))) (v' := (.pointer (some ⟨b275, 1, none⟩))) 5 (by kernel_rfl) (fun _ => by kernel_rfl) rfl hs426 ?_
                          refine any_R 6 (by kernel_rfl) (fun _ hS_ => runs_load (ad := ⟨b275, 1, none⟩) (v := (.int .i64 ((ss.getD p251.toNat dSt7).c1))) (by kernel_rfl) (hS_.cellAt 0 rfl rfl)) hs426 ?_
                          refine any_step 3 (by kernel_rfl) (by kernel_rfl) ?_
                          obtain ⟨r427, h428, hm⟩ := bind_some hm
                          have hs429 := St.f5 hs416
                          have hs430 := St.f7 hs429
                          have hs431 := St.f7 hs430
                          have hs432 := St.f8 hs431
                          refine ops_call4 hs432 (by kernel_rfl) (agivei_walk (ab := b56) (ib := b57) (bb := b58) (vb := b42) (img := (q31.take (((((fmtW gw gi gb).length) : Int) - (mn cut_ (((fmtW gw gi gb).length) : Int))).toNat))) (l := l280) (gw := gw) (gi := gi) (gb := gb) (ia := (placeOf 6 gw gi gb 0)) (ba := (placeOf 7 gw gi gb 0)) (n_ := (ss.getD p251.toNat dSt7).c1) (hm := h428) B _) ?_
                          rintro _ _ w433 ⟨rfl, rfl⟩ hs434
                          have hs435 := St.ap4 hs434
                          have hs436 := St.f10 hs435
                          have hs437 := St.f10 hs436
                          have hs438 := St.f2 hs437
                          have hs439 := St.f4 hs438
                          have hs440 := St.f4 hs439
                          have hs441 := St.f10 hs440
                          have hs442 := St.f10 hs441
                          have hs443 := St.f10 hs442
                          have hs444 := St.f9 hs443
                          have hs445 := St.tk9 hs444
                          refine ops_done (by kernel_rfl) ⟨hs445, ?_⟩
                          refine any_step 7 (by kernel_rfl) (by kernel_rfl) ?_
                          obtain ⟨r446, h447, hm⟩ := bind_some hm
                          have hs448 := St.f5 hs435
                          have hs449 := St.f7 hs448
                          have hs450 := St.f7 hs449
                          have hs451 := St.f8 hs450
                          refine ops_call4 hs451 (by kernel_rfl) (rgivei_walk (ab := b65) (ib := b66) (bb := b67) (vb := b48) (img := (q31.take (((((fmtW gw gi gb).length) : Int) - (mn cut_ (((fmtW gw gi gb).length) : Int))).toNat))) (l := l279) (gw := gw) (gi := gi) (gb := gb) (ia := (placeOf 6 gw gi gb 0)) (ba := (placeOf 7 gw gi gb 0)) (n_ := (ss.getD p251.toNat dSt7).c1) (hm := h447) B _) ?_
                          rintro _ _ w452 ⟨rfl, rfl⟩ hs453
                          have hs454 := St.ap4 hs453
                          have hs455 := St.f10 hs454
                          have hs456 := St.f10 hs455
                          have hs457 := St.f6 hs456
                          have hs458 := St.f8 hs457
                          have hs459 := St.f8 hs458
                          have hs460 := St.f5 hs459
                          have hs461 := St.f7 hs460
                          have hs462 := St.f7 hs461
                          have hs463 := St.f10 hs462
                          have hs464 := St.tk9 hs463
                          refine ops_done (by kernel_rfl) ⟨hs464, ?_⟩
                          refine any_val (v := (.bool (decide (r427.1 = r446.1)))) (v' := (.bool (decide (r427.1 = r446.1)))) 8 (by kernel_rfl) (fun _ => by kernel_rfl) rfl hs464 ?_
                          refine any_val (v := (.bool (decide (r427.1 = r446.1)))) (v' := (.bool (decide (r427.1 = r446.1)))) 9 (by kernel_rfl) (fun _ => by kernel_rfl) rfl hs464 ?_
                          refine any_done (by kernel_rfl) ?_
                          refine normal_block ?_
                          have hs465 := St.f10 hs454
                          have hs466 := St.f10 hs465
                          have hs467 := St.f6 hs466
                          have hs468 := St.f8 hs467
                          have hs469 := St.f8 hs468
                          have hs470 := St.f9 hs469
                          have hs471 := St.f6 hs470
                          have hs472 := St.f8 hs471
                          have hs473 := St.f8 hs472
                          have hs474 := St.f9 hs473
                          have hs475 := St.f10 hs474
                          exact ⟨r446.2, r427.2, (decide (r427.1 = r446.1)), slots_intro _ (by kernel_rfl), hs475, hm⟩
                        ·
                          have h415p : ¬ (((ss.getD p251.toNat dSt7).c0).tmod 5 = 2) := of_decide_eq_false h415
                          replace hm := ite_no hm h415p
                          refine W.seq fun K476 hK476 => ?_
                          refine W.region ?_
                          refine ops_run 2 (by kernel_rfl) ?_
                          refine ops_done (by kernel_rfl) ?_
                          refine hK476 _ _ ?_
                          clear hK476
                          refine W.cond (decide (((ss.getD p251.toNat dSt7).c0).tmod 5 = 3)) (by kernel_rfl) (fun h477 => ?_) (fun h477 => ?_)
                          ·
                            have h477p : ((ss.getD p251.toNat dSt7).c0).tmod 5 = 3 := of_decide_eq_true h477
                            replace hm := ite_yes hm h477p
                            have hs478 := hs282.drew
                            have hs479 := St.f10 hs478
                            have hs480 := St.f10 hs479
                            have hs481 := St.f10 hs480
                            have hs482 := St.f10 hs481
                            have hs483 := St.f10 hs482
                            have hs484 := St.f9 hs483
                            have hs485 := St.f9 hs484
                            have hs486 := St.f9 hs485
                            have hs487 := St.f8 hs486
                            have hs488 := St.tk9 hs487
                            refine W.regionD [(0, 0), (0, 0), (2, 2), (5, 5), (0, 0), (0, 0), (32, 32), (88, 80), (136, 136), (511, 256)] (fun w_ => St B w [] w_ [blk b275 (.cells [(.int .u8 ((ss.getD p251.toNat dSt7).c0)), (.int .i64 ((ss.getD p251.toNat dSt7).c1)), (.bool ((ss.getD p251.toNat dSt7).c2))].toArray 136 (0, 0)), blk b66 (.cells [(.pointer (some ⟨b48, 0, none⟩)), (.int .i64 (placeOf 6 gw gi gb 0)), (.int .i64 gi)].toArray 202 (0, 0)), blk b67 (.cells [(.pointer (some ⟨b48, 0, none⟩)), (.int .i64 (placeOf 7 gw gi gb 0)), (.int .i64 gb)].toArray 202 (0, 0)), blk b65 (.cells [(.pointer (some ⟨b48, 0, none⟩)), (.int .i64 gw), (.int .i64 gi), (.int .i64 gb), (.pointer (some ⟨b66, 0, none⟩)), (.pointer (some ⟨b67, 0, none⟩))].toArray 204 (0, 0)), blk b57 (.cells [(.pointer (some ⟨b42, 0, none⟩)), (.int .i64 (placeOf 6 gw gi gb 0)), (.int .i64 gi)].toArray 151 (0, 0)), blk b58 (.cells [(.pointer (some ⟨b42, 0, none⟩)), (.int .i64 (placeOf 7 gw gi gb 0)), (.int .i64 gb)].toArray 151 (0, 0)), blk b56 (.cells [(.pointer (some ⟨b42, 0, none⟩)), (.int .i64 gw), (.int .i64 gi), (.int .i64 gb), (.pointer (some ⟨b57, 0, none⟩)), (.int .i64 gi), (.pointer (some ⟨b58, 0, none⟩)), (.int .i64 gb)].toArray 188 (0, 0)), kU64.row a26 c27 (q31.take (((((fmtW gw gi gb).length) : Int) - (mn cut_ (((fmtW gw gi gb).length) : Int))).toNat)), blk b4 (.cells [(.int .i64 gw), (.int .i64 gi), (.int .i64 gb)].toArray 63 (0, 0))]) (by kernel_rfl) hs488 ?_
                            refine any_val (v := (.pointer (some ⟨b56, 0, none⟩))) (v' := (.pointer (some ⟨b56, 0, none⟩))) 0 (by kernel_rfl) (fun _ => by kernel_rfl) rfl hs488 ?_
                            refine any_val (v := (.pointer (some ⟨b275, 1, none⟩))) (v' := (.pointer (some ⟨b275, 1, none⟩))) 1 (by kernel_rfl) (fun _ => by kernel_rfl) rfl hs488 ?_
                            refine any_R 2 (by kernel_rfl) (fun _ hS_ => runs_load (ad := ⟨b275, 1, none⟩) (v := (.int .i64 ((ss.getD p251.toNat dSt7).c1))) (by kernel_rfl) (hS_.cellAt 0 rfl rfl)) hs488 ?_
                            refine any_val (v := (.pointer (some ⟨b65, 0, none⟩))) (v' := (.pointer (some ⟨b65, 0, none⟩))) 4 (by kernel_rfl) (fun _ => by kernel_rfl) rfl hs488 ?_
                            refine any_val (v := (.pointer (some ⟨b275, 1, none⟩))) (v' := (.pointer (some ⟨b275, 1, none⟩))) 5 (by kernel_rfl) (fun _ => by kernel_rfl) rfl hs488 ?_
                            refine any_R 6 (by kernel_rfl) (fun _ hS_ => runs_load (ad := ⟨b275, 1, none⟩) (v := (.int .i64 ((ss.getD p251.toNat dSt7).c1))) (by kernel_rfl) (hS_.cellAt 0 rfl rfl)) hs488 ?_
                            refine any_step 3 (by kernel_rfl) (by kernel_rfl) ?_
                            obtain ⟨r489, h490, hm⟩ := bind_some hm
                            have hs491 := St.f5 hs478
                            have hs492 := St.f7 hs491
                            have hs493 := St.f7 hs492
                            have hs494 := St.f8 hs493
                            refine ops_call4 hs494 (by kernel_rfl) (agiveb_walk (ab := b56) (ib := b57) (bb := b58) (vb := b42) (img := (q31.take (((((fmtW gw gi gb).length) : Int) - (mn cut_ (((fmtW gw gi gb).length) : Int))).toNat))) (l := l280) (gw := gw) (gi := gi) (gb := gb) (ia := (placeOf 6 gw gi gb 0)) (ba := (placeOf 7 gw gi gb 0)) (n_ := (ss.getD p251.toNat dSt7).c1) (hm := h490) B _) ?_
                            rintro _ _ w495 ⟨rfl, rfl⟩ hs496
                            have hs497 := St.ap4 hs496
                            have hs498 := St.f10 hs497
                            have hs499 := St.f10 hs498
                            have hs500 := St.f2 hs499
                            have hs501 := St.f4 hs500
                            have hs502 := St.f4 hs501
                            have hs503 := St.f10 hs502
                            have hs504 := St.f10 hs503
                            have hs505 := St.f10 hs504
                            have hs506 := St.f9 hs505
                            have hs507 := St.tk9 hs506
                            refine ops_done (by kernel_rfl) ⟨hs507, ?_⟩
                            refine any_step 7 (by kernel_rfl) (by kernel_rfl) ?_
                            obtain ⟨r508, h509, hm⟩ := bind_some hm
                            have hs510 := St.f5 hs497
                            have hs511 := St.f7 hs510
                            have hs512 := St.f7 hs511
                            have hs513 := St.f8 hs512
                            refine ops_call4 hs513 (by kernel_rfl) (rgiveb_walk (ab := b65) (ib := b66) (bb := b67) (vb := b48) (img := (q31.take (((((fmtW gw gi gb).length) : Int) - (mn cut_ (((fmtW gw gi gb).length) : Int))).toNat))) (l := l279) (gw := gw) (gi := gi) (gb := gb) (ia := (placeOf 6 gw gi gb 0)) (ba := (placeOf 7 gw gi gb 0)) (n_ := (ss.getD p251.toNat dSt7).c1) (hm := h509) B _) ?_
                            rintro _ _ w514 ⟨rfl, rfl⟩ hs515
                            have hs516 := St.ap4 hs515
                            have hs517 := St.f10 hs516
                            have hs518 := St.f10 hs517
                            have hs519 := St.f6 hs518
                            have hs520 := St.f8 hs519
                            have hs521 := St.f8 hs520
                            have hs522 := St.f5 hs521
                            have hs523 := St.f7 hs522
                            have hs524 := St.f7 hs523
                            have hs525 := St.f10 hs524
                            have hs526 := St.tk9 hs525
                            refine ops_done (by kernel_rfl) ⟨hs526, ?_⟩
                            refine any_val (v := (.bool (decide (r489.1 = r508.1)))) (v' := (.bool (decide (r489.1 = r508.1)))) 8 (by kernel_rfl) (fun _ => by kernel_rfl) rfl hs526 ?_
                            refine any_val (v := (.bool (decide (r489.1 = r508.1)))) (v' := (.bool (decide (r489.1 = r508.1)))) 9 (by kernel_rfl) (fun _ => by kernel_rfl) rfl hs526 ?_
                            refine any_done (by kernel_rfl) ?_
                            refine normal_block ?_
                            have hs527 := St.f10 hs516
                            have hs528 := St.f10 hs527
                            have hs529 := St.f6 hs528
                            have hs530 := St.f8 hs529
                            have hs531 := St.f8 hs530
                            have hs532 := St.f9 hs531
                            have hs533 := St.f6 hs532
                            have hs534 := St.f8 hs533
                            have hs535 := St.f8 hs534
                            have hs536 := St.f9 hs535
                            have hs537 := St.f10 hs536
                            exact ⟨r508.2, r489.2, (decide (r489.1 = r508.1)), slots_intro _ (by kernel_rfl), hs537, hm⟩
                          ·
                            have h477p : ¬ (((ss.getD p251.toNat dSt7).c0).tmod 5 = 3) := of_decide_eq_false h477
                            replace hm := ite_no hm h477p
                            have hs538 := hs282.drew
                            refine W.regionD [(0, 0), (0, 0), (2, 2), (5, 5), (0, 0), (0, 0), (32, 32), (88, 80), (136, 136), (511, 256)] (fun w_ => St B w [] w_ [blk b275 (.cells [(.int .u8 ((ss.getD p251.toNat dSt7).c0)), (.int .i64 ((ss.getD p251.toNat dSt7).c1)), (.bool ((ss.getD p251.toNat dSt7).c2))].toArray 136 (0, 0)), refA (ptr b48) (q31.take (((((fmtW gw gi gb).length) : Int) - (mn cut_ (((fmtW gw gi gb).length) : Int))).toNat)) l279, blk b66 (.cells [(.pointer (some ⟨b48, 0, none⟩)), (.int .i64 (placeOf 6 gw gi gb 0)), (.int .i64 gi)].toArray 202 (0, 0)), blk b67 (.cells [(.pointer (some ⟨b48, 0, none⟩)), (.int .i64 (placeOf 7 gw gi gb 0)), (.int .i64 gb)].toArray 202 (0, 0)), blk b65 (.cells [(.pointer (some ⟨b48, 0, none⟩)), (.int .i64 gw), (.int .i64 gi), (.int .i64 gb), (.pointer (some ⟨b66, 0, none⟩)), (.pointer (some ⟨b67, 0, none⟩))].toArray 204 (0, 0)), viewA (ptr b42) (q31.take (((((fmtW gw gi gb).length) : Int) - (mn cut_ (((fmtW gw gi gb).length) : Int))).toNat)) l280, blk b57 (.cells [(.pointer (some ⟨b42, 0, none⟩)), (.int .i64 (placeOf 6 gw gi gb 0)), (.int .i64 gi)].toArray 151 (0, 0)), blk b58 (.cells [(.pointer (some ⟨b42, 0, none⟩)), (.int .i64 (placeOf 7 gw gi gb 0)), (.int .i64 gb)].toArray 151 (0, 0)), blk b56 (.cells [(.pointer (some ⟨b42, 0, none⟩)), (.int .i64 gw), (.int .i64 gi), (.int .i64 gb), (.pointer (some ⟨b57, 0, none⟩)), (.int .i64 gi), (.pointer (some ⟨b58, 0, none⟩)), (.int .i64 gb)].toArray 188 (0, 0)), kU64.row a26 c27 (q31.take (((((fmtW gw gi gb).length) : Int) - (mn cut_ (((fmtW gw gi gb).length) : Int))).toNat)), blk b4 (.cells [(.int .i64 gw), (.int .i64 gi), (.int .i64 gb)].toArray 63 (0, 0))]) (by kernel_rfl) hs538 ?_
                            refine any_val (v := (.pointer (some ⟨b56, 0, none⟩))) (v' := (.pointer (some ⟨b56, 0, none⟩))) 0 (by kernel_rfl) (fun _ => by kernel_rfl) rfl hs538 ?_
                            refine any_val (v := (.pointer (some ⟨b275, 1, none⟩))) (v' := (.pointer (some ⟨b275, 1, none⟩))) 1 (by kernel_rfl) (fun _ => by kernel_rfl) rfl hs538 ?_
                            refine any_R 2 (by kernel_rfl) (fun _ hS_ => runs_load (ad := ⟨b275, 1, none⟩) (v := (.int .i64 ((ss.getD p251.toNat dSt7).c1))) (by kernel_rfl) (hS_.cellAt 0 rfl rfl)) hs538 ?_
                            refine any_val (v := (.pointer (some ⟨b65, 0, none⟩))) (v' := (.pointer (some ⟨b65, 0, none⟩))) 4 (by kernel_rfl) (fun _ => by kernel_rfl) rfl hs538 ?_
                            refine any_val (v := (.pointer (some ⟨b275, 1, none⟩))) (v' := (.pointer (some ⟨b275, 1, none⟩))) 5 (by kernel_rfl) (fun _ => by kernel_rfl) rfl hs538 ?_
                            refine any_R 6 (by kernel_rfl) (fun _ hS_ => runs_load (ad := ⟨b275, 1, none⟩) (v := (.int .i64 ((ss.getD p251.toNat dSt7).c1))) (by kernel_rfl) (hS_.cellAt 0 rfl rfl)) hs538 ?_
                            refine any_step 3 (by kernel_rfl) (by kernel_rfl) ?_
                            obtain ⟨r539, h540, hm⟩ := bind_some hm
                            refine ops_call0 hs538 (by kernel_rfl) (aused_walk (hab := (hs538.heapAt 8 rfl)) (hib := (hs538.heapAt 6 rfl)) (hbb := (hs538.heapAt 7 rfl)) (hv := (hs538.entAt 5 rfl viewA_at)) (hm := h540) B _) ?_
                            rintro _ _ w541 ⟨rfl, rfl⟩ hs542
                            have hs543 := St.ap0 hs542
                            refine ops_done (by kernel_rfl) ⟨hs543, ?_⟩
                            refine any_step 7 (by kernel_rfl) (by kernel_rfl) ?_
                            obtain ⟨r544, h545, hm⟩ := bind_some hm
                            refine ops_call0 hs543 (by kernel_rfl) (rused_walk (hab := (hs543.heapAt 4 rfl)) (hib := (hs543.heapAt 2 rfl)) (hbb := (hs543.heapAt 3 rfl)) (hv := (hs543.entAt 1 rfl refA_at)) (hm := h545) B _) ?_
                            rintro _ _ w546 ⟨rfl, rfl⟩ hs547
                            have hs548 := St.ap0 hs547
                            refine ops_done (by kernel_rfl) ⟨hs548, ?_⟩
                            refine any_val (v := (.bool (r539 == r544))) (v' := (.bool (r539 == r544))) 8 (by kernel_rfl) (fun _ => by kernel_rfl) rfl hs548 ?_
                            refine any_val (v := (.bool (r539 == r544))) (v' := (.bool (r539 == r544))) 9 (by kernel_rfl) (fun _ => by kernel_rfl) rfl hs548 ?_
                            refine any_done (by kernel_rfl) ?_
                            refine normal_block ?_
                            exact ⟨l279, l280, (r539 == r544), slots_intro _ (by kernel_rfl), hs548, hm⟩
                ·
                  refine W.seq fun K549 hK549 => ?_
                  refine W.region ?_
                  refine ops_run 1 (by kernel_rfl) ?_
                  refine ops_R (runs_load (ad := ⟨b275, 2, none⟩) (v := (.bool ((ss.getD p251.toNat dSt7).c2))) (by kernel_rfl) (hs278.cellAt 0 rfl rfl)) ?_
                  refine ops_done (by kernel_rfl) ?_
                  refine hK549 _ _ ?_
                  clear hK549
                  refine W.cond ((ss.getD p251.toNat dSt7).c2) (by kernel_rfl) (fun h550 => ?_) (fun h550 => ?_)
                  ·
                    have h550p : ((ss.getD p251.toNat dSt7).c2) = true := h550
                    replace hm := ite_yes hm h550p
                    refine W.seq fun K551 hK551 => ?_
                    refine W.region ?_
                    refine ops_run 1 (by kernel_rfl) ?_
                    have hs552 := St.f5 hs278
                    refine ops_call1 hs552 (by kernel_rfl) (drop_spec (p := (.pointer (some ⟨b42, 0, none⟩))) (img := (q31.take (((((fmtW gw gi gb).length) : Int) - (mn cut_ (((fmtW gw gi gb).length) : Int))).toNat))) (l := l250) B _) ?_
                    rintro _ _ w553 ⟨rfl, rfl⟩ hs554
                    have hs555 := St.ap1 hs554
                    refine ops_done (by kernel_rfl) ?_
                    refine hK551 _ _ ?_
                    clear hK551
                    have hs556 := St.f2 hs555
                    obtain ⟨⟨_, ia557, ic558, la559, lc560, mn561⟩, ⟨ex562, hok563⟩, hs564⟩ := St.open hs556
                    have hs565 : St B w [] w553 [blk b48 (.cells [(.slice ia557 ((q31.take (((((fmtW gw gi gb).length) : Int) - (mn cut_ (((fmtW gw gi gb).length) : Int))).toNat)).length) ic558), (.slice la559 l249.length lc560), (.bool mn561)].toArray 71 (0, 0)), kU64.row ia557 ic558 (q31.take (((((fmtW gw gi gb).length) : Int) - (mn cut_ (((fmtW gw gi gb).length) : Int))).toNat)), kWr.row la559 lc560 l249, viewA (ptr b42) (q31.take (((((fmtW gw gi gb).length) : Int) - (mn cut_ (((fmtW gw gi gb).length) : Int))).toNat)) ([]), blk b275 (.cells [(.int .u8 ((ss.getD p251.toNat dSt7).c0)), (.int .i64 ((ss.getD p251.toNat dSt7).c1)), (.bool ((ss.getD p251.toNat dSt7).c2))].toArray 136 (0, 0)), blk b66 (.cells [(.pointer (some ⟨b48, 0, none⟩)), (.int .i64 (placeOf 6 gw gi gb 0)), (.int .i64 gi)].toArray 202 (0, 0)), blk b67 (.cells [(.pointer (some ⟨b48, 0, none⟩)), (.int .i64 (placeOf 7 gw gi gb 0)), (.int .i64 gb)].toArray 202 (0, 0)), blk b65 (.cells [(.pointer (some ⟨b48, 0, none⟩)), (.int .i64 gw), (.int .i64 gi), (.int .i64 gb), (.pointer (some ⟨b66, 0, none⟩)), (.pointer (some ⟨b67, 0, none⟩))].toArray 204 (0, 0)), blk b57 (.cells [(.pointer (some ⟨b42, 0, none⟩)), (.int .i64 (placeOf 6 gw gi gb 0)), (.int .i64 gi)].toArray 151 (0, 0)), blk b58 (.cells [(.pointer (some ⟨b42, 0, none⟩)), (.int .i64 (placeOf 7 gw gi gb 0)), (.int .i64 gb)].toArray 151 (0, 0)), blk b56 (.cells [(.pointer (some ⟨b42, 0, none⟩)), (.int .i64 gw), (.int .i64 gi), (.int .i64 gb), (.pointer (some ⟨b57, 0, none⟩)), (.int .i64 gi), (.pointer (some ⟨b58, 0, none⟩)), (.int .i64 gb)].toArray 188 (0, 0)), kU64.row a26 c27 (q31.take (((((fmtW gw gi gb).length) : Int) - (mn cut_ (((fmtW gw gi gb).length) : Int))).toNat)), blk b4 (.cells [(.int .i64 gw), (.int .i64 gi), (.int .i64 gb)].toArray 63 (0, 0))] := by cases ex562; exact hs564
                    have := hok563.many
                    refine W.region ?_
                    refine ops_run 3 (by kernel_rfl) ?_
                    refine ops_store (off := 1) (cs := [(.slice ia557 ((q31.take (((((fmtW gw gi gb).length) : Int) - (mn cut_ (((fmtW gw gi gb).length) : Int))).toNat)).length) ic558), (.slice la559 l249.length lc560), (.bool mn561)]) (vs := [(.slice none 0 0)]) hs565 (by kernel_rfl) (by simp) rfl (fun w566 hs567 => ?_)
                    have hs568 : St B w [] w566 [blk b48 (.cells [(.slice ia557 ((q31.take (((((fmtW gw gi gb).length) : Int) - (mn cut_ (((fmtW gw gi gb).length) : Int))).toNat)).length) ic558), (.slice none 0 0), (.bool mn561)].toArray 71 (0, 0)), kU64.row ia557 ic558 (q31.take (((((fmtW gw gi gb).length) : Int) - (mn cut_ (((fmtW gw gi gb).length) : Int))).toNat)), kWr.row la559 lc560 l249, viewA (ptr b42) (q31.take (((((fmtW gw gi gb).length) : Int) - (mn cut_ (((fmtW gw gi gb).length) : Int))).toNat)) ([]), blk b275 (.cells [(.int .u8 ((ss.getD p251.toNat dSt7).c0)), (.int .i64 ((ss.getD p251.toNat dSt7).c1)), (.bool ((ss.getD p251.toNat dSt7).c2))].toArray 136 (0, 0)), blk b66 (.cells [(.pointer (some ⟨b48, 0, none⟩)), (.int .i64 (placeOf 6 gw gi gb 0)), (.int .i64 gi)].toArray 202 (0, 0)), blk b67 (.cells [(.pointer (some ⟨b48, 0, none⟩)), (.int .i64 (placeOf 7 gw gi gb 0)), (.int .i64 gb)].toArray 202 (0, 0)), blk b65 (.cells [(.pointer (some ⟨b48, 0, none⟩)), (.int .i64 gw), (.int .i64 gi), (.int .i64 gb), (.pointer (some ⟨b66, 0, none⟩)), (.pointer (some ⟨b67, 0, none⟩))].toArray 204 (0, 0)), blk b57 (.cells [(.pointer (some ⟨b42, 0, none⟩)), (.int .i64 (placeOf 6 gw gi gb 0)), (.int .i64 gi)].toArray 151 (0, 0)), blk b58 (.cells [(.pointer (some ⟨b42, 0, none⟩)), (.int .i64 (placeOf 7 gw gi gb 0)), (.int .i64 gb)].toArray 151 (0, 0)), blk b56 (.cells [(.pointer (some ⟨b42, 0, none⟩)), (.int .i64 gw), (.int .i64 gi), (.int .i64 gb), (.pointer (some ⟨b57, 0, none⟩)), (.int .i64 gi), (.pointer (some ⟨b58, 0, none⟩)), (.int .i64 gb)].toArray 188 (0, 0)), kU64.row a26 c27 (q31.take (((((fmtW gw gi gb).length) : Int) - (mn cut_ (((fmtW gw gi gb).length) : Int))).toNat)), blk b4 (.cells [(.int .i64 gw), (.int .i64 gi), (.int .i64 gb)].toArray 63 (0, 0))] := hs567
                    refine ops_done (by kernel_rfl) ?_
                    have hs569 := St.knil kWr hs568
                    have hs570 := St.f13 hs569
                    have hs571 := St.f13 hs570
                    have hs572 := St.f13 hs571
                    have hs573 := St.f13 hs572
                    have hs574 := St.f13 hs573
                    have hs575 := St.f13 hs574
                    have hs576 := St.f13 hs575
                    have hs577 := St.f13 hs576
                    have hs578 := St.f13 hs577
                    have hs579 := St.f13 hs578
                    have hs580 := St.f13 hs579
                    have hs581 := St.f11 hs580
                    have hs582 := St.f13 hs581
                    have hs583 := St.f13 hs582
                    have hs584 : St B w [] w566 [refA (ptr b48) (q31.take (((((fmtW gw gi gb).length) : Int) - (mn cut_ (((fmtW gw gi gb).length) : Int))).toNat)) ([]), kWr.row la559 lc560 l249, viewA (ptr b42) (q31.take (((((fmtW gw gi gb).length) : Int) - (mn cut_ (((fmtW gw gi gb).length) : Int))).toNat)) ([]), blk b275 (.cells [(.int .u8 ((ss.getD p251.toNat dSt7).c0)), (.int .i64 ((ss.getD p251.toNat dSt7).c1)), (.bool ((ss.getD p251.toNat dSt7).c2))].toArray 136 (0, 0)), blk b66 (.cells [(.pointer (some ⟨b48, 0, none⟩)), (.int .i64 (placeOf 6 gw gi gb 0)), (.int .i64 gi)].toArray 202 (0, 0)), blk b67 (.cells [(.pointer (some ⟨b48, 0, none⟩)), (.int .i64 (placeOf 7 gw gi gb 0)), (.int .i64 gb)].toArray 202 (0, 0)), blk b65 (.cells [(.pointer (some ⟨b48, 0, none⟩)), (.int .i64 gw), (.int .i64 gi), (.int .i64 gb), (.pointer (some ⟨b66, 0, none⟩)), (.pointer (some ⟨b67, 0, none⟩))].toArray 204 (0, 0)), blk b57 (.cells [(.pointer (some ⟨b42, 0, none⟩)), (.int .i64 (placeOf 6 gw gi gb 0)), (.int .i64 gi)].toArray 151 (0, 0)), blk b58 (.cells [(.pointer (some ⟨b42, 0, none⟩)), (.int .i64 (placeOf 7 gw gi gb 0)), (.int .i64 gb)].toArray 151 (0, 0)), blk b56 (.cells [(.pointer (some ⟨b42, 0, none⟩)), (.int .i64 gw), (.int .i64 gi), (.int .i64 gb), (.pointer (some ⟨b57, 0, none⟩)), (.int .i64 gi), (.pointer (some ⟨b58, 0, none⟩)), (.int .i64 gb)].toArray 188 (0, 0)), kU64.row a26 c27 (q31.take (((((fmtW gw gi gb).length) : Int) - (mn cut_ (((fmtW gw gi gb).length) : Int))).toNat)), blk b4 (.cells [(.int .i64 gw), (.int .i64 gi), (.int .i64 gb)].toArray 63 (0, 0))] := ref_close (l := []) (ia := ia557) (ic := ic558) (la := none) (lc := 0) (many := mn561) (VOk.nil hok563.size) hs583
                    have hs585 := St.f11 hs584
                    have hs586 := St.f11 hs585
                    have hs587 := St.f11 hs586
                    have hs588 := St.f11 hs587
                    have hs589 := St.f11 hs588
                    have hs590 := St.f7 hs589
                    have hs591 := St.f11 hs590
                    have hs592 := St.f11 hs591
                    have hs593 := St.f11 hs592
                    have hs594 := St.f9 hs593
                    have hs595 := St.f11 hs594
                    have hs596 := St.tk11 hs595
                    exact ⟨([]), ([]), slots_intro _ (by kernel_rfl), hs596, hm⟩
                  ·
                    have h550p : ¬ (((ss.getD p251.toNat dSt7).c2) = true) := ne_true_of_eq_false h550
                    replace hm := ite_no hm h550p
                    refine W.skip ?_
                    exact ⟨l249, l250, slots_intro _ (by kernel_rfl), hs278, hm⟩
              ·
                have h268p : ¬ (p251 < (ss.length : Int)) := of_decide_eq_false h268
                replace hm := ite_no hm h268p
                refine W.exit (exit_seq (exit_seq (exit_here ?_)))
                exact ⟨l249, l250, slots_intro _ (by kernel_rfl), hs255, hm⟩
          ·
            have h64p : ¬ (May gw gi gb ∧ wordsOf gw gi gb ≤ ((q31.take (((((fmtW gw gi gb).length) : Int) - (mn cut_ (((fmtW gw gi gb).length) : Int))).toNat)).length : Int)) := of_decide_eq_false h64
            replace hm := ite_no hm h64p
            refine ops_call0 hs61 (by kernel_rfl) (rnew_err (gw := gw) (gi := gi) (gb := gb) (hv := (hs61.entAt 3 rfl refA_at)) (hz := h63) (hN := h64p) B _) ?_
            rintro _ _ w597 ⟨rfl, rfl⟩ hs598
            have hs599 := St.ap0 hs598
            refine ops_run 5 (by kernel_rfl) ?_
            obtain ⟨r600, h601, hm⟩ := bind_some hm
            replace h601 := some_inj h601
            refine ops_set 16 (v := .int .i64 r600) (Eq.trans (by kernel_rfl) (congrArg (Value.int .i64) h601)) ?_
            refine ops_done (by kernel_rfl) ?_
            refine hK62 _ _ ?_
            clear hK62
            refine W.seq fun K602 hK602 => ?_
            refine W.seq fun K603 hK603 => ?_
            refine W.region ?_
            refine ops_run 8 (by kernel_rfl) ?_
            rcases Bool.eq_false_or_eq_true (!decide (0 = r600)) with h604 | h604
            rotate_left
            ·
              have h604p : 0 = r600 := of_decide_eq_true (bnot_false h604)
              replace hm := ite_yes hm h604p
              refine ops_set 103 (v := .bool false) (eq_bool_of (by kernel_rfl) h604) ?_
              refine ops_set 101 (v := .bool false) (eq_bool_of (by kernel_rfl) h604) ?_
              refine ops_set 102 (v := .bool false) (eq_bool_of (by kernel_rfl) h604) ?_
              refine ops_run 6 (by kernel_rfl) ?_
              refine ops_done (by kernel_rfl) ?_
              refine hK603 _ _ ?_
              clear hK603
              refine W.cond_true true (by kernel_rfl) rfl ?_
              refine W.seq fun K605 hK605 => ?_
              refine W.region ?_
              refine ops_run 1 (by kernel_rfl) ?_
              refine ops_done (by kernel_rfl) ?_
              refine hK605 _ _ ?_
              clear hK605
              refine W.ret (ret_seq ?_)
              have hs606 := St.tk0 hs599
              refine ret_of (.bool false) (by kernel_rfl) ⟨_, ⟨congrArg Value.bool (some_inj hm), rfl⟩, hs606⟩
            ·
              have h604p : ¬ (0 = r600) := of_decide_eq_false (bnot_true h604)
              replace hm := ite_no hm h604p
              refine ops_set 103 (v := .bool true) (eq_bool_of (by kernel_rfl) h604) ?_
              refine ops_set 101 (v := .bool true) (eq_bool_of (by kernel_rfl) h604) ?_
              refine ops_set 102 (v := .bool true) (eq_bool_of (by kernel_rfl) h604) ?_
              refine ops_run 6 (by kernel_rfl) ?_
              refine ops_done (by kernel_rfl) ?_
              refine hK603 _ _ ?_
              clear hK603
              refine W.cond_true true (by kernel_rfl) rfl ?_
              refine W.seq fun K607 hK607 => ?_
              refine W.region ?_
              refine ops_run 1 (by kernel_rfl) ?_
              refine ops_done (by kernel_rfl) ?_
              refine hK607 _ _ ?_
              clear hK607
              refine W.ret (ret_seq ?_)
              have hs608 := St.tk0 hs599
              refine ret_of (.bool false) (by kernel_rfl) ⟨_, ⟨congrArg Value.bool (some_inj hm), rfl⟩, hs608⟩
        ·
          have h55p : ¬ (May gw gi gb ∧ wordsOf gw gi gb ≤ ((q31.take (((((fmtW gw gi gb).length) : Int) - (mn cut_ (((fmtW gw gi gb).length) : Int))).toNat)).length : Int)) := of_decide_eq_false h55
          replace hm := ite_no hm h55p
          refine ops_call0 hs52 (by kernel_rfl) (anew_err (gw := gw) (gi := gi) (gb := gb) (hv := (hs52.entAt 1 rfl viewA_at)) (hz := h54) (hN := h55p) B _) ?_
          rintro _ _ w609 ⟨rfl, rfl⟩ hs610
          have hs611 := St.ap0 hs610
          refine ops_run 5 (by kernel_rfl) ?_
          obtain ⟨r612, h613, hm⟩ := bind_some hm
          replace h613 := some_inj h613
          refine ops_set 14 (v := .int .i64 r612) (Eq.trans (by kernel_rfl) (congrArg (Value.int .i64) h613)) ?_
          refine ops_done (by kernel_rfl) ?_
          refine hK53 _ _ ?_
          clear hK53
          refine W.seq fun K614 hK614 => ?_
          refine W.region ?_
          refine ops_run 1 (by kernel_rfl) ?_
          refine ops_R (runs_loadAgg (ad := ⟨b4, 0, none⟩) (cs := [(.int .i64 gw), (.int .i64 gi), (.int .i64 gb)]) (by kernel_rfl) (cells_sub (hs611.heapAt 3 rfl) rfl)) ?_
          obtain ⟨h615, hm⟩ := need_some hm
          rcases Bool.eq_false_or_eq_true (decide (May gw gi gb ∧ wordsOf gw gi gb ≤ ((q31.take (((((fmtW gw gi gb).length) : Int) - (mn cut_ (((fmtW gw gi gb).length) : Int))).toNat)).length : Int))) with h616 | h616
          ·
            have h616p : May gw gi gb ∧ wordsOf gw gi gb ≤ ((q31.take (((((fmtW gw gi gb).length) : Int) - (mn cut_ (((fmtW gw gi gb).length) : Int))).toNat)).length : Int) := of_decide_eq_true h616
            replace hm := ite_yes hm h616p
            refine ops_call0 hs611 (by kernel_rfl) (rnew_ok (gw := gw) (gi := gi) (gb := gb) (hv := (hs611.entAt 0 rfl refA_at)) (hz := h615) (hP := h616p) B _) ?_
            rintro _ _ w620 ⟨b617, b618, b619, rfl, rfl⟩ hs621
            have hs622 := St.ap3 hs621
            refine ops_run 5 (by kernel_rfl) ?_
            refine ops_done (by kernel_rfl) ?_
            refine hK614 _ _ ?_
            clear hK614
            refine W.seq fun K623 hK623 => ?_
            refine W.seq fun K624 hK624 => ?_
            refine W.region ?_
            refine ops_run 8 (by kernel_rfl) ?_
            rcases Bool.eq_false_or_eq_true (!decide (r612 = 0)) with h625 | h625
            rotate_left
            ·
              have h625p : r612 = 0 := of_decide_eq_true (bnot_false h625)
              replace hm := ite_yes hm h625p
              refine ops_set 103 (v := .bool false) (eq_bool_of (by kernel_rfl) h625) ?_
              refine ops_set 101 (v := .bool false) (eq_bool_of (by kernel_rfl) h625) ?_
              refine ops_set 102 (v := .bool false) (eq_bool_of (by kernel_rfl) h625) ?_
              refine ops_run 6 (by kernel_rfl) ?_
              refine ops_done (by kernel_rfl) ?_
              refine hK624 _ _ ?_
              clear hK624
              refine W.cond_true true (by kernel_rfl) rfl ?_
              refine W.seq fun K626 hK626 => ?_
              refine W.region ?_
              refine ops_run 1 (by kernel_rfl) ?_
              refine ops_done (by kernel_rfl) ?_
              refine hK626 _ _ ?_
              clear hK626
              refine W.ret (ret_seq ?_)
              have hs627 := St.tk0 hs622
              refine ret_of (.bool false) (by kernel_rfl) ⟨_, ⟨congrArg Value.bool (some_inj hm), rfl⟩, hs627⟩
            ·
              have h625p : ¬ (r612 = 0) := of_decide_eq_false (bnot_true h625)
              replace hm := ite_no hm h625p
              refine ops_set 103 (v := .bool true) (eq_bool_of (by kernel_rfl) h625) ?_
              refine ops_set 101 (v := .bool true) (eq_bool_of (by kernel_rfl) h625) ?_
              refine ops_set 102 (v := .bool true) (eq_bool_of (by kernel_rfl) h625) ?_
              refine ops_run 6 (by kernel_rfl) ?_
              refine ops_done (by kernel_rfl) ?_
              refine hK624 _ _ ?_
              clear hK624
              refine W.cond_true true (by kernel_rfl) rfl ?_
              refine W.seq fun K628 hK628 => ?_
              refine W.region ?_
              refine ops_run 1 (by kernel_rfl) ?_
              refine ops_done (by kernel_rfl) ?_
              refine hK628 _ _ ?_
              clear hK628
              refine W.ret (ret_seq ?_)
              have hs629 := St.tk0 hs622
              refine ret_of (.bool false) (by kernel_rfl) ⟨_, ⟨congrArg Value.bool (some_inj hm), rfl⟩, hs629⟩
          ·
            have h616p : ¬ (May gw gi gb ∧ wordsOf gw gi gb ≤ ((q31.take (((((fmtW gw gi gb).length) : Int) - (mn cut_ (((fmtW gw gi gb).length) : Int))).toNat)).length : Int)) := of_decide_eq_false h616
            replace hm := ite_no hm h616p
            refine ops_call0 hs611 (by kernel_rfl) (rnew_err (gw := gw) (gi := gi) (gb := gb) (hv := (hs611.entAt 0 rfl refA_at)) (hz := h615) (hN := h616p) B _) ?_
            rintro _ _ w630 ⟨rfl, rfl⟩ hs631
            have hs632 := St.ap0 hs631
            refine ops_run 5 (by kernel_rfl) ?_
            obtain ⟨r633, h634, hm⟩ := bind_some hm
            replace h634 := some_inj h634
            refine ops_set 16 (v := .int .i64 r633) (Eq.trans (by kernel_rfl) (congrArg (Value.int .i64) h634)) ?_
            refine ops_done (by kernel_rfl) ?_
            refine hK614 _ _ ?_
            clear hK614
            refine W.seq fun K635 hK635 => ?_
            refine W.seq fun K636 hK636 => ?_
            refine W.region ?_
            refine ops_run 8 (by kernel_rfl) ?_
            rcases Bool.eq_false_or_eq_true (!decide (r612 = r633)) with h637 | h637
            rotate_left
            ·
              have h637p : r612 = r633 := of_decide_eq_true (bnot_false h637)
              replace hm := ite_yes hm h637p
              refine ops_set 103 (v := .bool false) (eq_bool_of (by kernel_rfl) h637) ?_
              refine ops_set 101 (v := .bool false) (eq_bool_of (by kernel_rfl) h637) ?_
              refine ops_set 102 (v := .bool false) (eq_bool_of (by kernel_rfl) h637) ?_
              refine ops_run 6 (by kernel_rfl) ?_
              refine ops_done (by kernel_rfl) ?_
              refine hK636 _ _ ?_
              clear hK636
              refine W.cond_false false (by kernel_rfl) rfl ?_
              refine W.skip ?_
              refine hK635 _ _ ?_
              clear hK635
              refine W.seq fun K638 hK638 => ?_
              refine W.seq fun K639 hK639 => ?_
              refine W.region ?_
              refine ops_run 2 (by kernel_rfl) ?_
              refine ops_done (by kernel_rfl) ?_
              refine hK639 _ _ ?_
              clear hK639
              refine W.cond_true true (by kernel_rfl) rfl ?_
              refine W.seq fun K640 hK640 => ?_
              refine W.region ?_
              obtain ⟨r641, h642, hm⟩ := bind_some hm
              refine ops_call0 hs632 (by kernel_rfl) (works07_walk (hG := hG) (hT := (hs632.oldCells hT)) (hm := h642) B _) ?_
              rintro _ _ w644 ⟨rfl, rfl⟩ hs645
              have hs646 := St.ap0 hs645
              refine ops_run 1 (by kernel_rfl) ?_
              refine ops_done (by kernel_rfl) ?_
              refine hK640 _ _ ?_
              clear hK640
              refine W.ret (ret_seq ?_)
              have hs647 := St.tk0 hs646
              refine ret_of (.bool r641) (by kernel_rfl) ⟨_, ⟨congrArg Value.bool (some_inj hm), rfl⟩, hs647⟩
            ·
              have h637p : ¬ (r612 = r633) := of_decide_eq_false (bnot_true h637)
              replace hm := ite_no hm h637p
              refine ops_set 103 (v := .bool true) (eq_bool_of (by kernel_rfl) h637) ?_
              refine ops_set 101 (v := .bool true) (eq_bool_of (by kernel_rfl) h637) ?_
              refine ops_set 102 (v := .bool true) (eq_bool_of (by kernel_rfl) h637) ?_
              refine ops_run 6 (by kernel_rfl) ?_
              refine ops_done (by kernel_rfl) ?_
              refine hK636 _ _ ?_
              clear hK636
              refine W.cond_true true (by kernel_rfl) rfl ?_
              refine W.seq fun K648 hK648 => ?_
              refine W.region ?_
              refine ops_run 1 (by kernel_rfl) ?_
              refine ops_done (by kernel_rfl) ?_
              refine hK648 _ _ ?_
              clear hK648
              refine W.ret (ret_seq ?_)
              have hs649 := St.tk0 hs632
              refine ret_of (.bool false) (by kernel_rfl) ⟨_, ⟨congrArg Value.bool (some_inj hm), rfl⟩, hs649⟩
      ·
        refine W.seq fun K650 hK650 => ?_
        refine W.region ?_
        refine ops_run 1 (by kernel_rfl) ?_
        refine ops_done (by kernel_rfl) ?_
        refine hK650 _ _ ?_
        clear hK650
        refine W.block ?_
        refine W.loop_iter (G := (List Int) × Int) (σ := (List Int) × Int) (fun | (q651, p652) => (q651, p652)) (fun | (q651, p652), s_, w_ => (∃ us, s_ = slots 243 [(1, (.slice ta ts.length tc)), (2, (.int .u16 cut_)), (3, (.slice sa ss.length sc)), (4, (.pointer (some ⟨b4, 0, none⟩))), (9, (.slice a26 ((fmtW gw gi gb).length) c27)), (10, (.int .i64 p652))] us) ∧ St B w [] w_ [kU64.row a26 c27 q651, blk b4 (.cells [(.int .i64 gw), (.int .i64 gi), (.int .i64 gb)].toArray 63 (0, 0))]) ((fmtW gw gi gb), 0) ⟨slots_intro _ (by kernel_rfl), hs30⟩ hm ?_
        rintro k653 ih654 ⟨q651, p652⟩ _ w655 ⟨⟨us, rfl⟩, hs656⟩ hm
        replace hm : allocplays_B0 gw gi gb ts cut_ ss k653 q651 p652 = some true := hm
        unfold allocplays_B0 at hm
        refine W.seq fun K657 hK657 => ?_
        refine W.seq fun K658 hK658 => ?_
        refine W.region ?_
        refine ops_run 5 (by kernel_rfl) ?_
        rcases Bool.eq_false_or_eq_true (decide (p652 < (ts.length : Int))) with h659 | h659
        ·
          have h659p : p652 < (ts.length : Int) := of_decide_eq_true h659
          replace hm := ite_yes hm h659p
          refine ops_set 47 (v := .bool true) (eq_bool_of (by kernel_rfl) h659) ?_
          refine ops_set 46 (v := .bool true) (eq_bool_of (by kernel_rfl) h659) ?_
          refine ops_run 4 (by kernel_rfl) ?_
          refine ops_done (by kernel_rfl) ?_
          refine hK658 _ _ ?_
          clear hK658
          refine W.cond (decide ((((fmtW gw gi gb).length) : Int) > 0)) (by kernel_rfl) (fun h660 => ?_) (fun h660 => ?_)
          ·
            have h660p : (((fmtW gw gi gb).length) : Int) > 0 := of_decide_eq_true h660
            replace hm := ite_yes hm h660p
            refine W.skip ?_
            refine hK657 _ _ ?_
            clear hK657
            refine W.seq fun K661 hK661 => ?_
            refine W.block ?_
            have hs662 := hs656.drew
            have hs663 := St.f1 hs662
            have hs664 := St.tk1 hs663
            refine W.regionD [(0, 0), (0, 0), (0, 0), (6, 6), (8, 8), (16, 16), (32, 32), (0, 0), (128, 128), (320, 320), (0, 0), (0, 0), (3072, 3072), (4096, 4096), (8192, 8192), (32767, 513), (65535, 49152)] (fun w_ => St B w [] w_ [blk b4 (.cells [(.int .i64 gw), (.int .i64 gi), (.int .i64 gb)].toArray 63 (0, 0))]) (by kernel_rfl) hs664 ?_
            refine any_val (v := (.slice a26 ((fmtW gw gi gb).length) c27)) (v' := (.slice a26 ((fmtW gw gi gb).length) c27)) 0 (by kernel_rfl) (fun _ => by kernel_rfl) rfl hs664 ?_
            refine any_val (v := (.slice ta ts.length tc)) (v' := (.slice ta ts.length tc)) 1 (by kernel_rfl) (fun _ => by kernel_rfl) rfl hs664 ?_
            refine any_val (v := (.int .i64 p652)) (v' := (.int .i64 p652)) 2 (by kernel_rfl) (fun _ => by kernel_rfl) rfl hs664 ?_
            obtain ⟨h666, hm⟩ := need_some hm
            have hk665 := lt_toNat h666
            refine any_R 3 (by kernel_rfl) (fun _ hS_ => runs_index (a := ta) (n := ts.length) (z := p652) (size := 2) p652.toNat (nat_of h666.1) hk665 (kTn7.addr (hs662.oldCells ht) hk665) (by kernel_rfl)) hs664 ?_
            refine any_val (v := (.pointer (some (adr ta (p652.toNat * 2))))) (v' := (.pointer (some (adr ta (p652.toNat * 2))))) 4 (by kernel_rfl) (fun _ => by kernel_rfl) rfl hs664 ?_
            refine any_R 5 (by kernel_rfl) (fun _ hS_ => runs_load (ad := ((adr ta (p652.toNat * 2)).add 0)) (v := (.int .u16 ((ts.getD p652.toNat dTn7).c0))) (by kernel_rfl) (kTn7.at (hS_.oldCells ht) hk665 dTn7 0 rfl)) hs664 ?_
            obtain ⟨h667, hm⟩ := need_some hm
            refine any_val (v := .int .i64 (IntKind.i64.wrap ((ts.getD p652.toNat dTn7).c0))) (v' := .int .i64 ((ts.getD p652.toNat dTn7).c0)) 6 (by kernel_rfl) (fun _ => by kernel_rfl) (congrArg (Value.int .i64) (wrap_i64 h667.1 h667.2)) hs664 ?_
            refine any_val (v := (.slice a26 ((fmtW gw gi gb).length) c27)) (v' := (.slice a26 ((fmtW gw gi gb).length) c27)) 7 (by kernel_rfl) (fun _ => by kernel_rfl) rfl hs664 ?_
            refine any_val (v := (.int .i64 (((fmtW gw gi gb).length) : Int))) (v' := (.int .i64 (((fmtW gw gi gb).length) : Int))) 8 (by kernel_rfl) (fun _ => by kernel_rfl) rfl hs664 ?_
            obtain ⟨h668, hm⟩ := need_some hm
            refine any_R (v := .int .i64 (((ts.getD p652.toNat dTn7).c0).tmod (((fmtW gw gi gb).length) : Int))) 9 (by kernel_rfl) (fun _ hS_ => runs_rem (k := .i64) (a := (ts.getD p652.toNat dTn7).c0) (b := (((fmtW gw gi gb).length) : Int)) (by kernel_rfl) h668 rfl) hs664 ?_
            refine any_val (v := (.slice ta ts.length tc)) (v' := (.slice ta ts.length tc)) 10 (by kernel_rfl) (fun _ => by kernel_rfl) rfl hs664 ?_
            refine any_val (v := (.int .i64 p652)) (v' := (.int .i64 p652)) 11 (by kernel_rfl) (fun _ => by kernel_rfl) rfl hs664 ?_
            obtain ⟨h670, hm⟩ := need_some hm
            have hk669 := lt_toNat h670
            refine any_R 12 (by kernel_rfl) (fun _ hS_ => runs_index (a := ta) (n := ts.length) (z := p652) (size := 2) p652.toNat (nat_of h670.1) hk669 (kTn7.addr (hs662.oldCells ht) hk669) (by kernel_rfl)) hs664 ?_
            refine any_val (v := (.pointer (some ((adr ta (p652.toNat * 2)).add 1)))) (v' := (.pointer (some ((adr ta (p652.toNat * 2)).add 1)))) 13 (by kernel_rfl) (fun _ => by kernel_rfl) rfl hs664 ?_
            refine any_R 14 (by kernel_rfl) (fun _ hS_ => runs_load (ad := ((adr ta (p652.toNat * 2)).add 1)) (v := (.int .u64 ((ts.getD p652.toNat dTn7).c1))) (by kernel_rfl) (kTn7.at (hS_.oldCells ht) hk669 dTn7 1 rfl)) hs664 ?_
            obtain ⟨h672, hm⟩ := need_some hm
            have hk671 := lt_toNat h672
            obtain ⟨h674, hm⟩ := need_some hm
            have hk673 := h674
            refine any_R 15 (by kernel_rfl) (fun _ hS_ => runs_index (a := a26) (n := (fmtW gw gi gb).length) (z := (((ts.getD p652.toNat dTn7).c0).tmod (((fmtW gw gi gb).length) : Int))) (size := 1) ((((ts.getD p652.toNat dTn7).c0).tmod (((fmtW gw gi gb).length) : Int)).toNat) (nat_of h672.1) hk671 (kU64.addr (St.kcells kU64 hs662 0 rfl) hk673) (by kernel_rfl)) hs664 ?_
            refine any_step 16 (by kernel_rfl) (by kernel_rfl) ?_
            refine ops_storeK kU64 (j := 0) (vs := [(.int .u64 ((ts.getD p652.toNat dTn7).c1))]) 0 ((ts.getD p652.toNat dTn7).c1) hs662 hk673 (Nat.le_of_ble_eq_true rfl) (by simp) rfl rfl (by kernel_rfl) (fun w675 hs676 => ?_)
            have hs678 := St.f1 hs676
            have hs679 := St.tk1 hs678
            refine ops_done (by kernel_rfl) ⟨hs679, ?_⟩
            refine any_done (by kernel_rfl) ?_
            refine normal_block ?_
            refine hK661 _ _ ?_
            clear hK661
            refine W.region ?_
            refine ops_run 1 (by kernel_rfl) ?_
            obtain ⟨h680, hm⟩ := need_some hm
            refine ops_val (v := .int .i64 (IntKind.i64.wrap (p652 + 1))) (v' := .int .i64 (p652 + 1)) (by kernel_rfl) (congrArg (Value.int .i64) (wrap_i64 h680.1 h680.2)) ?_
            refine ops_run 1 (by kernel_rfl) ?_
            refine ops_done (by kernel_rfl) ?_
            refine loopAt_next ?_
            exact ih654 ((q651.set ((((ts.getD p652.toNat dTn7).c0).tmod (((fmtW gw gi gb).length) : Int)).toNat) ((ts.getD p652.toNat dTn7).c1)), (p652 + 1)) _ _ ⟨slots_intro _ (by kernel_rfl), hs676⟩ hm
          ·
            have h660p : ¬ ((((fmtW gw gi gb).length) : Int) > 0) := of_decide_eq_false h660
            replace hm := ite_no hm h660p
            refine W.exit (exit_seq (exit_seq (exit_here ?_)))
            exact ⟨q651, slots_intro _ (by kernel_rfl), hs656, hm⟩
        ·
          have h659p : ¬ (p652 < (ts.length : Int)) := of_decide_eq_false h659
          replace hm := ite_no hm h659p
          refine ops_set 47 (v := .bool false) (eq_bool_of (by kernel_rfl) h659) ?_
          refine ops_set 46 (v := .bool false) (eq_bool_of (by kernel_rfl) h659) ?_
          refine ops_run 4 (by kernel_rfl) ?_
          refine ops_done (by kernel_rfl) ?_
          refine hK658 _ _ ?_
          clear hK658
          refine W.cond_false false (by kernel_rfl) rfl ?_
          refine W.exit (exit_seq (exit_seq (exit_here ?_)))
          exact ⟨q651, slots_intro _ (by kernel_rfl), hs656, hm⟩

end Go.Proofs.YthimamnblklkbaaDoor
