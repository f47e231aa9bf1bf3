/- What the code computes, by a program. -/
import Derived.Test.YthimamnblklkbaaDoorGG
import Derived.Test.YthimamnblklkbaaDoorGC
namespace Go.Proofs.YthimamnblklkbaaDoor
open Go Go.RowKit
set_option linter.unusedSimpArgs false
set_option linter.unusedVariables false

def allocrefused_J2 (b_ : Int) (n_ : Int) (r55 : Int × List (Int × Int)) : Option (Bool) :=
  if n_ = 1 then ((works07_M).bind fun r93 =>
some r93) else (if (r55.2.length : Int) = 0 then (need ((vflat (fmtW 1 2 (2 + b_.tmod 9)) r55.2).length ≤ 9223372036854775806) <|
if (vflat (fmtW 1 2 (2 + b_.tmod 9)) r55.2) = (fmtW 1 2 (2 + b_.tmod 9)) then ((works07_M).bind fun r116 =>
some r116) else (some false)) else (some false))

def allocrefused_J1 (b_ : Int) (n_ : Int) (r35 : Int × Int × List (Int × Int)) (r45 : Int × List (Int × Int)) (r55 : Int × List (Int × Int)) (r65 : Int × Int) (p71 : Int) : Option (Bool) :=
  if r35.2.1 = 7 then (if r35.1 = 0 then (if r65.1 = p71 then (need (-9223372036854775808 ≤ ((2 + b_.tmod 9) - 1) ∧ ((2 + b_.tmod 9) - 1) ≤ 9223372036854775807) <|
if r65.2 = ((2 + b_.tmod 9) - 1) then (if (r55.2.length : Int) > 1 then (some false) else (if r45.1 = 1 then (if n_ > 0 then (if ((r55.1 = 3) ↔ (n_ < (2 + b_.tmod 9))) then (if r55.1 = 3 then (allocrefused_J2 b_ n_ r55) else (if r55.1 = 1 then (allocrefused_J2 b_ n_ r55) else (some false))) else (some false)) else (if ((r55.1 = 3) ↔ False) then (if r55.1 = 3 then (allocrefused_J2 b_ n_ r55) else (if r55.1 = 1 then (allocrefused_J2 b_ n_ r55) else (some false))) else (some false))) else (if n_ = 1 then (if r45.1 = 0 then (if n_ > 0 then (if ((r55.1 = 3) ↔ (n_ < (2 + b_.tmod 9))) then (if r55.1 = 3 then (allocrefused_J2 b_ n_ r55) else (if r55.1 = 1 then (allocrefused_J2 b_ n_ r55) else (some false))) else (some false)) else (if ((r55.1 = 3) ↔ False) then (if r55.1 = 3 then (allocrefused_J2 b_ n_ r55) else (if r55.1 = 1 then (allocrefused_J2 b_ n_ r55) else (some false))) else (some false))) else (some false)) else (some false)))) else (some false)) else (some false)) else (some false)) else (some false)

def allocrefused_M (b_ : Int) (n_ : Int) : Option (Bool) :=
  need (-9223372036854775808 ≤ b_ ∧ b_ ≤ 9223372036854775807) <|
need (-9223372036854775808 ≤ (2 + b_.tmod 9) ∧ (2 + b_.tmod 9) ≤ 9223372036854775807) <|
need ((fmtW 1 2 (2 + b_.tmod 9)).length ≤ 17592186044415) <|
need (((fmtW 1 2 (2 + b_.tmod 9)).length : Int) ≤ 1000000000000) <|
if May 1 2 (2 + b_.tmod 9) ∧ wordsOf 1 2 (2 + b_.tmod 9) ≤ ((fmtW 1 2 (2 + b_.tmod 9)).length : Int) then ((atakei_M (fmtW 1 2 (2 + b_.tmod 9)) ([]) 2 (placeOf 6 1 2 (2 + b_.tmod 9) 0)).bind fun r35 =>
(agivei_M (fmtW 1 2 (2 + b_.tmod 9)) r35.2.2 2 (placeOf 6 1 2 (2 + b_.tmod 9) 0) n_).bind fun r45 =>
(agiveb_M (fmtW 1 2 (2 + b_.tmod 9)) r45.2 (2 + b_.tmod 9) (placeOf 7 1 2 (2 + b_.tmod 9) 0) n_).bind fun r55 =>
(afree_M (fmtW 1 2 (2 + b_.tmod 9)) r55.2 2 (2 + b_.tmod 9) (placeOf 6 1 2 (2 + b_.tmod 9) 0) (placeOf 7 1 2 (2 + b_.tmod 9) 0)).bind fun r65 =>
if n_ = 1 then (allocrefused_J1 b_ n_ r35 r45 r55 r65 1) else (allocrefused_J1 b_ n_ r35 r45 r55 r65 0)) else ((some (if May 1 2 (2 + b_.tmod 9) then (8 : Int) else 1)).bind fun r188 =>
some false)

set_option maxRecDepth 20000 in
set_option maxHeartbeats 4000000 in
set_option linter.unusedVariables false in
theorem allocrefused_walk {b_ : Int} {n_ : Int}   (B : Nat) (w : World) (hB : w.heap.size = B) (hT : CellsAt (some ⟨0, 0, none⟩) tab8 w) (hm : allocrefused_M b_ n_ = some true) : Spec Tryd.prog 17 #[(.int .u8 b_), (.int .i64 n_)] B w [] (fun v H' => v = .bool true ∧ H' = []) := by
  refine spec_Q Tryd.func17 rfl fun hs => ?_
  unfold allocrefused_M at hm
  have hG : 0 < B := by rw [← hB]; exact lt_of_cells hT (v := .int .u8 0) (by kernel_rfl)
  refine W.seq fun K1 hK1 => ?_
  refine W.region ?_
  refine ops_run 1 (by kernel_rfl) ?_
  refine ops_done (by kernel_rfl) ?_
  refine hK1 _ _ ?_
  clear hK1
  refine W.seq fun K2 hK2 => ?_
  refine W.region ?_
  refine ops_run 1 (by kernel_rfl) ?_
  obtain ⟨h3, hm⟩ := need_some hm
  refine ops_val (v := .int .i64 (IntKind.i64.wrap b_)) (v' := .int .i64 b_) (by kernel_rfl) (congrArg (Value.int .i64) (wrap_i64 h3.1 h3.2)) ?_
  refine ops_run 1 (by kernel_rfl) ?_
  obtain ⟨h4, hm⟩ := need_some hm
  refine ops_val (v := .int .i64 (IntKind.i64.wrap (2 + b_.tmod 9))) (v' := .int .i64 (2 + b_.tmod 9)) (by kernel_rfl) (congrArg (Value.int .i64) (wrap_i64 h4.1 h4.2)) ?_
  refine ops_run 1 (by kernel_rfl) ?_
  refine ops_new (fun b => .pointer (some ⟨b, 0, none⟩)) (.cells [(.int .i64 0), (.int .i64 0), (.int .i64 0)].toArray 63 (0, 0)) hs (by kernel_rfl) (fun b7 w5 hs6 => ?_)
  refine ops_store (off := 0) (cs := [(.int .i64 0), (.int .i64 0), (.int .i64 0)]) (vs := [(.int .i64 1), (.int .i64 2), (.int .i64 (2 + b_.tmod 9))]) hs6 (by kernel_rfl) (by simp) rfl (fun w8 hs9 => ?_)
  have hs10 : St B w [] w8 [blk b7 (.cells [(.int .i64 1), (.int .i64 2), (.int .i64 (2 + b_.tmod 9))].toArray 63 (0, 0))] := hs9
  refine ops_done (by kernel_rfl) ?_
  refine hK2 _ _ ?_
  clear hK2
  refine W.seq fun K11 hK11 => ?_
  refine W.region ?_
  refine ops_R (runs_loadAgg (ad := ⟨b7, 0, none⟩) (cs := [(.int .i64 1), (.int .i64 2), (.int .i64 (2 + b_.tmod 9))]) (by kernel_rfl) (cells_sub (hs10.heapAt 0 rfl) rfl)) ?_
  refine ops_call0 hs10 (by kernel_rfl) (lformat_spec (gw := 1) (gi := 2) (gb := (2 + b_.tmod 9)) B _) ?_
  rintro _ _ w14 ⟨a12, c13, rfl, rfl⟩ hs15
  have hs16 := St.ap1 hs15
  refine ops_run 1 (by kernel_rfl) ?_
  refine ops_done (by kernel_rfl) ?_
  refine hK11 _ _ ?_
  clear hK11
  refine W.seq fun K17 hK17 => ?_
  refine W.region ?_
  refine ops_run 1 (by kernel_rfl) ?_
  obtain ⟨h19, hm⟩ := need_some hm
  refine ops_call0 hs16 (by kernel_rfl) (new_spec (hc := (St.kcells kU64 hs16 0 rfl)) (hn := (St.capnil kU64 hs16 0 rfl)) (hsz := h19) B _) ?_
  rintro _ _ w20 ⟨b18, rfl, rfl⟩ hs21
  have hs22 := St.ap1 hs21
  refine ops_run 1 (by kernel_rfl) ?_
  refine ops_done (by kernel_rfl) ?_
  refine hK17 _ _ ?_
  clear hK17
  refine W.seq fun K23 hK23 => ?_
  refine W.region ?_
  refine ops_run 1 (by kernel_rfl) ?_
  refine ops_R (runs_loadAgg (ad := ⟨b7, 0, none⟩) (cs := [(.int .i64 1), (.int .i64 2), (.int .i64 (2 + b_.tmod 9))]) (by kernel_rfl) (cells_sub (hs22.heapAt 2 rfl) rfl)) ?_
  obtain ⟨h24, hm⟩ := need_some hm
  rcases Bool.eq_false_or_eq_true (decide (May 1 2 (2 + b_.tmod 9) ∧ wordsOf 1 2 (2 + b_.tmod 9) ≤ ((fmtW 1 2 (2 + b_.tmod 9)).length : Int))) with h25 | h25
  ·
    have h25p : May 1 2 (2 + b_.tmod 9) ∧ wordsOf 1 2 (2 + b_.tmod 9) ≤ ((fmtW 1 2 (2 + b_.tmod 9)).length : Int) := of_decide_eq_true h25
    replace hm := ite_yes hm h25p
    refine ops_call0 hs22 (by kernel_rfl) (anew_ok (gw := 1) (gi := 2) (gb := (2 + b_.tmod 9)) (hv := (hs22.entAt 0 rfl viewA_at)) (hz := h24) (hP := h25p) B _) ?_
    rintro _ _ w29 ⟨b26, b27, b28, rfl, rfl⟩ hs30
    have hs31 := St.ap3 hs30
    refine ops_run 5 (by kernel_rfl) ?_
    refine ops_done (by kernel_rfl) ?_
    refine hK23 _ _ ?_
    clear hK23
    refine W.seq fun K32 hK32 => ?_
    refine W.seq fun K33 hK33 => ?_
    refine W.region ?_
    refine ops_run 10 (by kernel_rfl) ?_
    refine ops_done (by kernel_rfl) ?_
    refine hK33 _ _ ?_
    clear hK33
    refine W.cond_false false (by kernel_rfl) rfl ?_
    refine W.skip ?_
    refine hK32 _ _ ?_
    clear hK32
    refine W.seq fun K34 hK34 => ?_
    refine W.region ?_
    refine ops_run 1 (by kernel_rfl) ?_
    obtain ⟨r35, h36, hm⟩ := bind_some hm
    have hs37 := St.f3 hs31
    have hs38 := St.f3 hs37
    have hs39 := St.f3 hs38
    have hs40 := St.f3 hs39
    refine ops_call4 hs40 (by kernel_rfl) (atakei_walk (ab := b26) (ib := b27) (bb := b28) (vb := b18) (img := (fmtW 1 2 (2 + b_.tmod 9))) (l := []) (gw := 1) (gi := 2) (gb := (2 + b_.tmod 9)) (ia := (placeOf 6 1 2 (2 + b_.tmod 9) 0)) (ba := (placeOf 7 1 2 (2 + b_.tmod 9) 0)) (hG := hG) (hT := (hs31.oldCells hT)) (hm := h36) B _) ?_
    rintro _ _ w41 ⟨rfl, rfl⟩ hs42
    have hs43 := St.ap4 hs42
    refine ops_run 5 (by kernel_rfl) ?_
    refine ops_done (by kernel_rfl) ?_
    refine hK34 _ _ ?_
    clear hK34
    refine W.seq fun K44 hK44 => ?_
    refine W.region ?_
    refine ops_run 2 (by kernel_rfl) ?_
    obtain ⟨r45, h46, hm⟩ := bind_some hm
    have hs47 := St.f3 hs43
    have hs48 := St.f3 hs47
    have hs49 := St.f3 hs48
    have hs50 := St.f3 hs49
    refine ops_call4 hs50 (by kernel_rfl) (agivei_walk (ab := b26) (ib := b27) (bb := b28) (vb := b18) (img := (fmtW 1 2 (2 + b_.tmod 9))) (l := r35.2.2) (gw := 1) (gi := 2) (gb := (2 + b_.tmod 9)) (ia := (placeOf 6 1 2 (2 + b_.tmod 9) 0)) (ba := (placeOf 7 1 2 (2 + b_.tmod 9) 0)) (n_ := n_) (hm := h46) B _) ?_
    rintro _ _ w51 ⟨rfl, rfl⟩ hs52
    have hs53 := St.ap4 hs52
    refine ops_run 1 (by kernel_rfl) ?_
    refine ops_done (by kernel_rfl) ?_
    refine hK44 _ _ ?_
    clear hK44
    refine W.seq fun K54 hK54 => ?_
    refine W.region ?_
    refine ops_run 2 (by kernel_rfl) ?_
    obtain ⟨r55, h56, hm⟩ := bind_some hm
    have hs57 := St.f3 hs53
    have hs58 := St.f3 hs57
    have hs59 := St.f3 hs58
    have hs60 := St.f3 hs59
    refine ops_call4 hs60 (by kernel_rfl) (agiveb_walk (ab := b26) (ib := b27) (bb := b28) (vb := b18) (img := (fmtW 1 2 (2 + b_.tmod 9))) (l := r45.2) (gw := 1) (gi := 2) (gb := (2 + b_.tmod 9)) (ia := (placeOf 6 1 2 (2 + b_.tmod 9) 0)) (ba := (placeOf 7 1 2 (2 + b_.tmod 9) 0)) (n_ := n_) (hm := h56) B _) ?_
    rintro _ _ w61 ⟨rfl, rfl⟩ hs62
    have hs63 := St.ap4 hs62
    refine ops_run 1 (by kernel_rfl) ?_
    refine ops_done (by kernel_rfl) ?_
    refine hK54 _ _ ?_
    clear hK54
    refine W.seq fun K64 hK64 => ?_
    refine W.region ?_
    refine ops_run 1 (by kernel_rfl) ?_
    obtain ⟨r65, h66, hm⟩ := bind_some hm
    refine ops_call0 hs63 (by kernel_rfl) (afree_walk (hab := (hs63.heapAt 0 rfl)) (hib := (hs63.heapAt 1 rfl)) (hbb := (hs63.heapAt 2 rfl)) (hv := (hs63.entAt 3 rfl viewA_at)) (hm := h66) B _) ?_
    rintro _ _ w67 ⟨rfl, rfl⟩ hs68
    have hs69 := St.ap0 hs68
    refine ops_run 5 (by kernel_rfl) ?_
    refine ops_done (by kernel_rfl) ?_
    refine hK64 _ _ ?_
    clear hK64
    refine W.seq fun K70 hK70 => ?_
    refine W.region ?_
    refine ops_run 1 (by kernel_rfl) ?_
    refine ops_done (by kernel_rfl) ?_
    refine hK70 _ _ ?_
    clear hK70
    refine W.seq_join (fun s_ w_ => ∃ (p71 : Int), (∃ us, s_ = slots 132 [(1, (.int .i64 n_)), (5, (.pointer (some ⟨b7, 0, none⟩))), (6, (.slice a12 ((fmtW 1 2 (2 + b_.tmod 9)).length) c13)), (7, (.pointer (some ⟨b18, 0, none⟩))), (10, (.int .i64 r35.1)), (11, (.int .i64 r35.2.1)), (12, (.int .i64 r45.1)), (13, (.int .i64 r55.1)), (14, (.int .i64 r65.1)), (15, (.int .i64 r65.2)), (16, (.int .i64 p71))] us) ∧ St B w [] w_ [viewA (ptr b18) (fmtW 1 2 (2 + b_.tmod 9)) r55.2, blk b27 (.cells [(.pointer (some ⟨b18, 0, none⟩)), (.int .i64 (placeOf 6 1 2 (2 + b_.tmod 9) 0)), (.int .i64 2)].toArray 151 (0, 0)), blk b28 (.cells [(.pointer (some ⟨b18, 0, none⟩)), (.int .i64 (placeOf 7 1 2 (2 + b_.tmod 9) 0)), (.int .i64 (2 + b_.tmod 9))].toArray 151 (0, 0)), blk b26 (.cells [(.pointer (some ⟨b18, 0, none⟩)), (.int .i64 1), (.int .i64 2), (.int .i64 (2 + b_.tmod 9)), (.pointer (some ⟨b27, 0, none⟩)), (.int .i64 2), (.pointer (some ⟨b28, 0, none⟩)), (.int .i64 (2 + b_.tmod 9))].toArray 188 (0, 0)), kU64.row a12 c13 (fmtW 1 2 (2 + b_.tmod 9)), blk b7 (.cells [(.int .i64 1), (.int .i64 2), (.int .i64 (2 + b_.tmod 9))].toArray 63 (0, 0))] ∧ allocrefused_J1 b_ n_ r35 r45 r55 r65 p71 = some true) ?_ ?_
    ·
      rintro _ w72 ⟨p71, ⟨us, rfl⟩, hs73, hm⟩
      unfold allocrefused_J1 at hm
      refine W.seq fun K74 hK74 => ?_
      refine W.seq fun K75 hK75 => ?_
      refine W.region ?_
      refine ops_run 3 (by kernel_rfl) ?_
      rcases Bool.eq_false_or_eq_true (!decide (r35.2.1 = 7)) with h76 | h76
      rotate_left
      ·
        have h76p : r35.2.1 = 7 := of_decide_eq_true (bnot_false h76)
        replace hm := ite_yes hm h76p
        refine ops_set 62 (v := .bool false) (eq_bool_of (by kernel_rfl) h76) ?_
        refine ops_set 61 (v := .bool false) (eq_bool_of (by kernel_rfl) h76) ?_
        refine ops_run 4 (by kernel_rfl) ?_
        rcases Bool.eq_false_or_eq_true (!decide (r35.1 = 0)) with h77 | h77
        rotate_left
        ·
          have h77p : r35.1 = 0 := of_decide_eq_true (bnot_false h77)
          replace hm := ite_yes hm h77p
          refine ops_set 66 (v := .bool false) (eq_bool_of (by kernel_rfl) h77) ?_
          refine ops_set 64 (v := .bool false) (eq_bool_of (by kernel_rfl) h77) ?_
          refine ops_set 65 (v := .bool false) (eq_bool_of (by kernel_rfl) h77) ?_
          refine ops_run 5 (by kernel_rfl) ?_
          rcases Bool.eq_false_or_eq_true (!decide (r65.1 = p71)) with h78 | h78
          rotate_left
          ·
            have h78p : r65.1 = p71 := of_decide_eq_true (bnot_false h78)
            replace hm := ite_yes hm h78p
            refine ops_set 71 (v := .bool false) (eq_bool_of (by kernel_rfl) h78) ?_
            refine ops_set 69 (v := .bool false) (eq_bool_of (by kernel_rfl) h78) ?_
            refine ops_set 70 (v := .bool false) (eq_bool_of (by kernel_rfl) h78) ?_
            refine ops_run 2 (by kernel_rfl) ?_
            refine ops_R (runs_load (ad := ⟨b7, 2, none⟩) (v := (.int .i64 (2 + b_.tmod 9))) (by kernel_rfl) (hs73.cellAt 5 rfl rfl)) ?_
            obtain ⟨h79, hm⟩ := need_some hm
            refine ops_val (v := .int .i64 (IntKind.i64.wrap ((2 + b_.tmod 9) - 1))) (v' := .int .i64 ((2 + b_.tmod 9) - 1)) (by kernel_rfl) (congrArg (Value.int .i64) (wrap_i64 h79.1 h79.2)) ?_
            refine ops_run 3 (by kernel_rfl) ?_
            rcases Bool.eq_false_or_eq_true (!decide (r65.2 = ((2 + b_.tmod 9) - 1))) with h80 | h80
            rotate_left
            ·
              have h80p : r65.2 = ((2 + b_.tmod 9) - 1) := of_decide_eq_true (bnot_false h80)
              replace hm := ite_yes hm h80p
              refine ops_set 78 (v := .bool false) (eq_bool_of (by kernel_rfl) h80) ?_
              refine ops_set 76 (v := .bool false) (eq_bool_of (by kernel_rfl) h80) ?_
              refine ops_set 77 (v := .bool false) (eq_bool_of (by kernel_rfl) h80) ?_
              refine ops_run 1 (by kernel_rfl) ?_
              refine ops_call0 hs73 (by kernel_rfl) (writes_spec (hv := (hs73.entAt 0 rfl viewA_at)) B _) ?_
              rintro _ _ w83 ⟨a81, c82, rfl, rfl⟩ hs84
              have hs85 := St.ap1 hs84
              refine ops_run 3 (by kernel_rfl) ?_
              refine ops_done (by kernel_rfl) ?_
              refine hK75 _ _ ?_
              clear hK75
              refine W.cond (decide ((r55.2.length : Int) > 1)) (by kernel_rfl) (fun h86 => ?_) (fun h86 => ?_)
              ·
                have h86p : (r55.2.length : Int) > 1 := of_decide_eq_true h86
                replace hm := ite_yes hm h86p
                refine W.seq fun K87 hK87 => ?_
                refine W.region ?_
                refine ops_run 1 (by kernel_rfl) ?_
                refine ops_done (by kernel_rfl) ?_
                refine hK87 _ _ ?_
                clear hK87
                refine W.ret (ret_seq ?_)
                have hs88 := St.tk0 hs85
                refine ret_of (.bool false) (by kernel_rfl) ⟨_, ⟨congrArg Value.bool (some_inj hm), rfl⟩, hs88⟩
              ·
                have h86p : ¬ ((r55.2.length : Int) > 1) := of_decide_eq_false h86
                replace hm := ite_no hm h86p
                refine W.skip ?_
                refine hK74 _ _ ?_
                clear hK74
                refine W.seq_join (fun s_ w_ => (∃ us, s_ = slots 132 [(1, (.int .i64 n_)), (6, (.slice a12 ((fmtW 1 2 (2 + b_.tmod 9)).length) c13)), (7, (.pointer (some ⟨b18, 0, none⟩)))] us) ∧ St B w [] w_ [kWr.row a81 c82 r55.2, viewA (ptr b18) (fmtW 1 2 (2 + b_.tmod 9)) r55.2, blk b27 (.cells [(.pointer (some ⟨b18, 0, none⟩)), (.int .i64 (placeOf 6 1 2 (2 + b_.tmod 9) 0)), (.int .i64 2)].toArray 151 (0, 0)), blk b28 (.cells [(.pointer (some ⟨b18, 0, none⟩)), (.int .i64 (placeOf 7 1 2 (2 + b_.tmod 9) 0)), (.int .i64 (2 + b_.tmod 9))].toArray 151 (0, 0)), blk b26 (.cells [(.pointer (some ⟨b18, 0, none⟩)), (.int .i64 1), (.int .i64 2), (.int .i64 (2 + b_.tmod 9)), (.pointer (some ⟨b27, 0, none⟩)), (.int .i64 2), (.pointer (some ⟨b28, 0, none⟩)), (.int .i64 (2 + b_.tmod 9))].toArray 188 (0, 0)), kU64.row a12 c13 (fmtW 1 2 (2 + b_.tmod 9)), blk b7 (.cells [(.int .i64 1), (.int .i64 2), (.int .i64 (2 + b_.tmod 9))].toArray 63 (0, 0))] ∧ allocrefused_J2 b_ n_ r55 = some true) ?_ ?_
                ·
                  rintro _ w89 ⟨⟨us, rfl⟩, hs90, hm⟩
                  unfold allocrefused_J2 at hm
                  refine W.seq fun K91 hK91 => ?_
                  refine W.region ?_
                  refine ops_run 3 (by kernel_rfl) ?_
                  rcases Bool.eq_false_or_eq_true (decide (n_ = 1)) with h92 | h92
                  ·
                    have h92p : n_ = 1 := of_decide_eq_true h92
                    replace hm := ite_yes hm h92p
                    refine ops_set 117 (v := .bool true) (eq_bool_of (by kernel_rfl) h92) ?_
                    refine ops_set 116 (v := .bool true) (eq_bool_of (by kernel_rfl) h92) ?_
                    refine ops_run 12 (by kernel_rfl) ?_
                    obtain ⟨r93, h94, hm⟩ := bind_some hm
                    refine ops_call0 hs90 (by kernel_rfl) (works07_walk (hG := hG) (hT := (hs90.oldCells hT)) (hm := h94) B _) ?_
                    rintro _ _ w96 ⟨rfl, rfl⟩ hs97
                    have hs98 := St.ap0 hs97
                    refine ops_run 2 (by kernel_rfl) ?_
                    refine ops_done (by kernel_rfl) ?_
                    refine hK91 _ _ ?_
                    clear hK91
                    refine W.ret ?_
                    have hs99 := St.tk0 hs98
                    refine ret_of (.bool r93) (by kernel_rfl) ⟨_, ⟨congrArg Value.bool (some_inj hm), rfl⟩, hs99⟩
                  ·
                    have h92p : ¬ (n_ = 1) := of_decide_eq_false h92
                    replace hm := ite_no hm h92p
                    refine ops_set 117 (v := .bool false) (eq_bool_of (by kernel_rfl) h92) ?_
                    refine ops_set 116 (v := .bool false) (eq_bool_of (by kernel_rfl) h92) ?_
                    refine ops_run 1 (by kernel_rfl) ?_
                    refine ops_call0 hs90 (by kernel_rfl) (writes_spec (hv := (hs90.entAt 1 rfl viewA_at)) B _) ?_
                    rintro _ _ w102 ⟨a100, c101, rfl, rfl⟩ hs103
                    have hs104 := St.ap1 hs103
                    refine ops_run 3 (by kernel_rfl) ?_
                    rcases Bool.eq_false_or_eq_true (decide ((r55.2.length : Int) = 0)) with h105 | h105
                    ·
                      have h105p : (r55.2.length : Int) = 0 := of_decide_eq_true h105
                      replace hm := ite_yes hm h105p
                      refine ops_set 122 (v := .bool true) (eq_bool_of (by kernel_rfl) h105) ?_
                      refine ops_set 121 (v := .bool true) (eq_bool_of (by kernel_rfl) h105) ?_
                      refine ops_run 1 (by kernel_rfl) ?_
                      refine ops_call0 hs104 (by kernel_rfl) (flat_spec (hv := (hs104.entAt 2 rfl viewA_at)) B _) ?_
                      rintro _ _ w108 ⟨a106, c107, rfl, rfl⟩ hs109
                      have hs110 := St.ap1 hs109
                      refine ops_run 1 (by kernel_rfl) ?_
                      obtain ⟨h111, hm⟩ := need_some hm
                      refine ops_call0 hs110 (by kernel_rfl) (same03_spec (xs := (vflat (fmtW 1 2 (2 + b_.tmod 9)) r55.2)) (ys := (fmtW 1 2 (2 + b_.tmod 9))) (xc := c107) (yc := c13) (n := (vflat (fmtW 1 2 (2 + b_.tmod 9)) r55.2).length) (m := (fmtW 1 2 (2 + b_.tmod 9)).length) (hn := rfl) (hm := rfl) (hx := (St.kcells kU64 hs110 0 rfl)) (hy := (St.kcells kU64 hs110 7 rfl)) (hsz := h111) B _) ?_
                      rintro _ _ w112 ⟨rfl, rfl⟩ hs113
                      have hs114 := St.ap0 hs113
                      refine ops_run 3 (by kernel_rfl) ?_
                      rcases Bool.eq_false_or_eq_true (decide ((vflat (fmtW 1 2 (2 + b_.tmod 9)) r55.2) = (fmtW 1 2 (2 + b_.tmod 9)))) with h115 | h115
                      ·
                        have h115p : (vflat (fmtW 1 2 (2 + b_.tmod 9)) r55.2) = (fmtW 1 2 (2 + b_.tmod 9)) := of_decide_eq_true h115
                        replace hm := ite_yes hm h115p
                        refine ops_set 129 (v := .bool true) (eq_bool_of (by kernel_rfl) h115) ?_
                        refine ops_set 126 (v := .bool true) (eq_bool_of (by kernel_rfl) h115) ?_
                        refine ops_set 127 (v := .bool true) (eq_bool_of (by kernel_rfl) h115) ?_
                        refine ops_set 128 (v := .bool true) (eq_bool_of (by kernel_rfl) h115) ?_
                        obtain ⟨r116, h117, hm⟩ := bind_some hm
                        refine ops_call0 hs114 (by kernel_rfl) (works07_walk (hG := hG) (hT := (hs114.oldCells hT)) (hm := h117) B _) ?_
                        rintro _ _ w119 ⟨rfl, rfl⟩ hs120
                        have hs121 := St.ap0 hs120
                        refine ops_run 2 (by kernel_rfl) ?_
                        refine ops_done (by kernel_rfl) ?_
                        refine hK91 _ _ ?_
                        clear hK91
                        refine W.ret ?_
                        have hs122 := St.tk0 hs121
                        refine ret_of (.bool r116) (by kernel_rfl) ⟨_, ⟨congrArg Value.bool (some_inj hm), rfl⟩, hs122⟩
                      ·
                        have h115p : ¬ ((vflat (fmtW 1 2 (2 + b_.tmod 9)) r55.2) = (fmtW 1 2 (2 + b_.tmod 9))) := of_decide_eq_false h115
                        replace hm := ite_no hm h115p
                        refine ops_set 129 (v := .bool false) (eq_bool_of (by kernel_rfl) h115) ?_
                        refine ops_set 126 (v := .bool false) (eq_bool_of (by kernel_rfl) h115) ?_
                        refine ops_set 127 (v := .bool false) (eq_bool_of (by kernel_rfl) h115) ?_
                        refine ops_set 128 (v := .bool false) (eq_bool_of (by kernel_rfl) h115) ?_
                        refine ops_run 3 (by kernel_rfl) ?_
                        refine ops_done (by kernel_rfl) ?_
                        refine hK91 _ _ ?_
                        clear hK91
                        refine W.ret ?_
                        have hs123 := St.tk0 hs114
                        refine ret_of (.bool false) (by kernel_rfl) ⟨_, ⟨congrArg Value.bool (some_inj hm), rfl⟩, hs123⟩
                    ·
                      have h105p : ¬ ((r55.2.length : Int) = 0) := of_decide_eq_false h105
                      replace hm := ite_no hm h105p
                      refine ops_set 122 (v := .bool false) (eq_bool_of (by kernel_rfl) h105) ?_
                      refine ops_set 121 (v := .bool false) (eq_bool_of (by kernel_rfl) h105) ?_
                      refine ops_run 10 (by kernel_rfl) ?_
                      refine ops_done (by kernel_rfl) ?_
                      refine hK91 _ _ ?_
                      clear hK91
                      refine W.ret ?_
                      have hs124 := St.tk0 hs104
                      refine ret_of (.bool false) (by kernel_rfl) ⟨_, ⟨congrArg Value.bool (some_inj hm), rfl⟩, hs124⟩
                ·
                  refine W.seq fun K125 hK125 => ?_
                  refine W.region ?_
                  refine ops_run 3 (by kernel_rfl) ?_
                  rcases Bool.eq_false_or_eq_true (!decide (r45.1 = 1)) with h126 | h126
                  rotate_left
                  ·
                    have h126p : r45.1 = 1 := of_decide_eq_true (bnot_false h126)
                    replace hm := ite_yes hm h126p
                    refine ops_set 86 (v := .bool false) (eq_bool_of (by kernel_rfl) h126) ?_
                    refine ops_set 85 (v := .bool false) (eq_bool_of (by kernel_rfl) h126) ?_
                    refine ops_run 13 (by kernel_rfl) ?_
                    rcases Bool.eq_false_or_eq_true (decide (n_ > 0)) with h127 | h127
                    ·
                      have h127p : n_ > 0 := of_decide_eq_true h127
                      replace hm := ite_yes hm h127p
                      refine ops_set 99 (v := .bool true) (eq_bool_of (by kernel_rfl) h127) ?_
                      refine ops_set 98 (v := .bool true) (eq_bool_of (by kernel_rfl) h127) ?_
                      refine ops_run 2 (by kernel_rfl) ?_
                      refine ops_R (runs_load (ad := ⟨b7, 2, none⟩) (v := (.int .i64 (2 + b_.tmod 9))) (by kernel_rfl) (hs85.cellAt 6 rfl rfl)) ?_
                      refine ops_run 5 (by kernel_rfl) ?_
                      rcases Bool.eq_false_or_eq_true (!((decide (r55.1 = 3)) == (decide (n_ < (2 + b_.tmod 9))))) with h128 | h128
                      rotate_left
                      ·
                        have h128p : ((r55.1 = 3) ↔ (n_ < (2 + b_.tmod 9))) := beq_yes decide_eq_true_iff decide_eq_true_iff (bnot_false h128)
                        replace hm := ite_yes hm h128p
                        refine ops_set 107 (v := .bool false) (eq_bool_of (by kernel_rfl) h128) ?_
                        refine ops_set 105 (v := .bool false) (eq_bool_of (by kernel_rfl) h128) ?_
                        refine ops_set 106 (v := .bool false) (eq_bool_of (by kernel_rfl) h128) ?_
                        refine ops_run 3 (by kernel_rfl) ?_
                        rcases Bool.eq_false_or_eq_true (!decide (r55.1 = 3)) with h129 | h129
                        rotate_left
                        ·
                          have h129p : r55.1 = 3 := of_decide_eq_true (bnot_false h129)
                          replace hm := ite_yes hm h129p
                          refine ops_set 110 (v := .bool false) (eq_bool_of (by kernel_rfl) h129) ?_
                          refine ops_set 109 (v := .bool false) (eq_bool_of (by kernel_rfl) h129) ?_
                          refine ops_run 4 (by kernel_rfl) ?_
                          refine ops_done (by kernel_rfl) ?_
                          refine hK125 _ _ ?_
                          clear hK125
                          refine W.cond_false false (by kernel_rfl) rfl ?_
                          refine W.skip ?_
                          exact ⟨slots_intro _ (by kernel_rfl), hs85, hm⟩
                        ·
                          have h129p : ¬ (r55.1 = 3) := of_decide_eq_false (bnot_true h129)
                          replace hm := ite_no hm h129p
                          refine ops_set 110 (v := .bool true) (eq_bool_of (by kernel_rfl) h129) ?_
                          refine ops_set 109 (v := .bool true) (eq_bool_of (by kernel_rfl) h129) ?_
                          refine ops_run 4 (by kernel_rfl) ?_
                          refine ops_done (by kernel_rfl) ?_
                          refine hK125 _ _ ?_
                          clear hK125
                          refine W.cond (!decide (r55.1 = 1)) (by kernel_rfl) (fun h130 => ?_) (fun h130 => ?_)
                          rotate_left
                          ·
                            have h130p : r55.1 = 1 := of_decide_eq_true (bnot_false h130)
                            replace hm := ite_yes hm h130p
                            refine W.skip ?_
                            exact ⟨slots_intro _ (by kernel_rfl), hs85, hm⟩
                          ·
                            have h130p : ¬ (r55.1 = 1) := of_decide_eq_false (bnot_true h130)
                            replace hm := ite_no hm h130p
                            refine W.seq fun K131 hK131 => ?_
                            refine W.region ?_
                            refine ops_run 1 (by kernel_rfl) ?_
                            refine ops_done (by kernel_rfl) ?_
                            refine hK131 _ _ ?_
                            clear hK131
                            refine W.ret (ret_seq ?_)
                            have hs132 := St.tk0 hs85
                            refine ret_of (.bool false) (by kernel_rfl) ⟨_, ⟨congrArg Value.bool (some_inj hm), rfl⟩, hs132⟩
                      ·
                        have h128p : ¬ ((r55.1 = 3) ↔ (n_ < (2 + b_.tmod 9))) := beq_no decide_eq_true_iff decide_eq_true_iff (bnot_true h128)
                        replace hm := ite_no hm h128p
                        refine ops_set 107 (v := .bool true) (eq_bool_of (by kernel_rfl) h128) ?_
                        refine ops_set 105 (v := .bool true) (eq_bool_of (by kernel_rfl) h128) ?_
                        refine ops_set 106 (v := .bool true) (eq_bool_of (by kernel_rfl) h128) ?_
                        refine ops_run 7 (by kernel_rfl) ?_
                        refine ops_done (by kernel_rfl) ?_
                        refine hK125 _ _ ?_
                        clear hK125
                        refine W.cond_true true (by kernel_rfl) rfl ?_
                        refine W.seq fun K133 hK133 => ?_
                        refine W.region ?_
                        refine ops_run 1 (by kernel_rfl) ?_
                        refine ops_done (by kernel_rfl) ?_
                        refine hK133 _ _ ?_
                        clear hK133
                        refine W.ret (ret_seq ?_)
                        have hs134 := St.tk0 hs85
                        refine ret_of (.bool false) (by kernel_rfl) ⟨_, ⟨congrArg Value.bool (some_inj hm), rfl⟩, hs134⟩
                    ·
                      have h127p : ¬ (n_ > 0) := of_decide_eq_false h127
                      replace hm := ite_no hm h127p
                      refine ops_set 99 (v := .bool false) (eq_bool_of (by kernel_rfl) h127) ?_
                      refine ops_set 98 (v := .bool false) (eq_bool_of (by kernel_rfl) h127) ?_
                      refine ops_run 8 (by kernel_rfl) ?_
                      rcases Bool.eq_false_or_eq_true (!((decide (r55.1 = 3)) == false)) with h135 | h135
                      rotate_left
                      ·
                        have h135p : ((r55.1 = 3) ↔ False) := beq_yes decide_eq_true_iff ff_iff (bnot_false h135)
                        replace hm := ite_yes hm h135p
                        refine ops_set 107 (v := .bool false) (eq_bool_of (by kernel_rfl) h135) ?_
                        refine ops_set 105 (v := .bool false) (eq_bool_of (by kernel_rfl) h135) ?_
                        refine ops_set 106 (v := .bool false) (eq_bool_of (by kernel_rfl) h135) ?_
                        refine ops_run 3 (by kernel_rfl) ?_
                        rcases Bool.eq_false_or_eq_true (!decide (r55.1 = 3)) with h136 | h136
                        rotate_left
                        ·
                          have h136p : r55.1 = 3 := of_decide_eq_true (bnot_false h136)
                          replace hm := ite_yes hm h136p
                          refine ops_set 110 (v := .bool false) (eq_bool_of (by kernel_rfl) h136) ?_
                          refine ops_set 109 (v := .bool false) (eq_bool_of (by kernel_rfl) h136) ?_
                          refine ops_run 4 (by kernel_rfl) ?_
                          refine ops_done (by kernel_rfl) ?_
                          refine hK125 _ _ ?_
                          clear hK125
                          refine W.cond_false false (by kernel_rfl) rfl ?_
                          refine W.skip ?_
                          exact ⟨slots_intro _ (by kernel_rfl), hs85, hm⟩
                        ·
                          have h136p : ¬ (r55.1 = 3) := of_decide_eq_false (bnot_true h136)
                          replace hm := ite_no hm h136p
                          refine ops_set 110 (v := .bool true) (eq_bool_of (by kernel_rfl) h136) ?_
                          refine ops_set 109 (v := .bool true) (eq_bool_of (by kernel_rfl) h136) ?_
                          refine ops_run 4 (by kernel_rfl) ?_
                          refine ops_done (by kernel_rfl) ?_
                          refine hK125 _ _ ?_
                          clear hK125
                          refine W.cond (!decide (r55.1 = 1)) (by kernel_rfl) (fun h137 => ?_) (fun h137 => ?_)
                          rotate_left
                          ·
                            have h137p : r55.1 = 1 := of_decide_eq_true (bnot_false h137)
                            replace hm := ite_yes hm h137p
                            refine W.skip ?_
                            exact ⟨slots_intro _ (by kernel_rfl), hs85, hm⟩
                          ·
                            have h137p : ¬ (r55.1 = 1) := of_decide_eq_false (bnot_true h137)
                            replace hm := ite_no hm h137p
                            refine W.seq fun K138 hK138 => ?_
                            refine W.region ?_
                            refine ops_run 1 (by kernel_rfl) ?_
                            refine ops_done (by kernel_rfl) ?_
                            refine hK138 _ _ ?_
                            clear hK138
                            refine W.ret (ret_seq ?_)
                            have hs139 := St.tk0 hs85
                            refine ret_of (.bool false) (by kernel_rfl) ⟨_, ⟨congrArg Value.bool (some_inj hm), rfl⟩, hs139⟩
                      ·
                        have h135p : ¬ ((r55.1 = 3) ↔ False) := beq_no decide_eq_true_iff ff_iff (bnot_true h135)
                        replace hm := ite_no hm h135p
                        refine ops_set 107 (v := .bool true) (eq_bool_of (by kernel_rfl) h135) ?_
                        refine ops_set 105 (v := .bool true) (eq_bool_of (by kernel_rfl) h135) ?_
                        refine ops_set 106 (v := .bool true) (eq_bool_of (by kernel_rfl) h135) ?_
                        refine ops_run 7 (by kernel_rfl) ?_
                        refine ops_done (by kernel_rfl) ?_
                        refine hK125 _ _ ?_
                        clear hK125
                        refine W.cond_true true (by kernel_rfl) rfl ?_
                        refine W.seq fun K140 hK140 => ?_
                        refine W.region ?_
                        refine ops_run 1 (by kernel_rfl) ?_
                        refine ops_done (by kernel_rfl) ?_
                        refine hK140 _ _ ?_
                        clear hK140
                        refine W.ret (ret_seq ?_)
                        have hs141 := St.tk0 hs85
                        refine ret_of (.bool false) (by kernel_rfl) ⟨_, ⟨congrArg Value.bool (some_inj hm), rfl⟩, hs141⟩
                  ·
                    have h126p : ¬ (r45.1 = 1) := of_decide_eq_false (bnot_true h126)
                    replace hm := ite_no hm h126p
                    refine ops_set 86 (v := .bool true) (eq_bool_of (by kernel_rfl) h126) ?_
                    refine ops_set 85 (v := .bool true) (eq_bool_of (by kernel_rfl) h126) ?_
                    refine ops_run 3 (by kernel_rfl) ?_
                    rcases Bool.eq_false_or_eq_true (!decide (n_ = 1)) with h142 | h142
                    rotate_left
                    ·
                      have h142p : n_ = 1 := of_decide_eq_true (bnot_false h142)
                      replace hm := ite_yes hm h142p
                      refine ops_set 89 (v := .bool false) (eq_bool_of (by kernel_rfl) h142) ?_
                      refine ops_set 88 (v := .bool false) (eq_bool_of (by kernel_rfl) h142) ?_
                      refine ops_run 5 (by kernel_rfl) ?_
                      rcases Bool.eq_false_or_eq_true (!decide (r45.1 = 0)) with h143 | h143
                      rotate_left
                      ·
                        have h143p : r45.1 = 0 := of_decide_eq_true (bnot_false h143)
                        replace hm := ite_yes hm h143p
                        refine ops_set 94 (v := .bool false) (eq_bool_of (by kernel_rfl) h143) ?_
                        refine ops_set 91 (v := .bool false) (eq_bool_of (by kernel_rfl) h143) ?_
                        refine ops_set 92 (v := .bool false) (eq_bool_of (by kernel_rfl) h143) ?_
                        refine ops_set 93 (v := .bool false) (eq_bool_of (by kernel_rfl) h143) ?_
                        refine ops_run 5 (by kernel_rfl) ?_
                        rcases Bool.eq_false_or_eq_true (decide (n_ > 0)) with h144 | h144
                        ·
                          have h144p : n_ > 0 := of_decide_eq_true h144
                          replace hm := ite_yes hm h144p
                          refine ops_set 99 (v := .bool true) (eq_bool_of (by kernel_rfl) h144) ?_
                          refine ops_set 98 (v := .bool true) (eq_bool_of (by kernel_rfl) h144) ?_
                          refine ops_run 2 (by kernel_rfl) ?_
                          refine ops_R (runs_load (ad := ⟨b7, 2, none⟩) (v := (.int .i64 (2 + b_.tmod 9))) (by kernel_rfl) (hs85.cellAt 6 rfl rfl)) ?_
                          refine ops_run 5 (by kernel_rfl) ?_
                          rcases Bool.eq_false_or_eq_true (!((decide (r55.1 = 3)) == (decide (n_ < (2 + b_.tmod 9))))) with h145 | h145
                          rotate_left
                          ·
                            have h145p : ((r55.1 = 3) ↔ (n_ < (2 + b_.tmod 9))) := beq_yes decide_eq_true_iff decide_eq_true_iff (bnot_false h145)
                            replace hm := ite_yes hm h145p
                            refine ops_set 107 (v := .bool false) (eq_bool_of (by kernel_rfl) h145) ?_
                            refine ops_set 105 (v := .bool false) (eq_bool_of (by kernel_rfl) h145) ?_
                            refine ops_set 106 (v := .bool false) (eq_bool_of (by kernel_rfl) h145) ?_
                            refine ops_run 3 (by kernel_rfl) ?_
                            rcases Bool.eq_false_or_eq_true (!decide (r55.1 = 3)) with h146 | h146
                            rotate_left
                            ·
                              have h146p : r55.1 = 3 := of_decide_eq_true (bnot_false h146)
                              replace hm := ite_yes hm h146p
                              refine ops_set 110 (v := .bool false) (eq_bool_of (by kernel_rfl) h146) ?_
                              refine ops_set 109 (v := .bool false) (eq_bool_of (by kernel_rfl) h146) ?_
                              refine ops_run 4 (by kernel_rfl) ?_
                              refine ops_done (by kernel_rfl) ?_
                              refine hK125 _ _ ?_
                              clear hK125
                              refine W.cond_false false (by kernel_rfl) rfl ?_
                              refine W.skip ?_
                              exact ⟨slots_intro _ (by kernel_rfl), hs85, hm⟩
                            ·
                              have h146p : ¬ (r55.1 = 3) := of_decide_eq_false (bnot_true h146)
                              replace hm := ite_no hm h146p
                              refine ops_set 110 (v := .bool true) (eq_bool_of (by kernel_rfl) h146) ?_
                              refine ops_set 109 (v := .bool true) (eq_bool_of (by kernel_rfl) h146) ?_
                              refine ops_run 4 (by kernel_rfl) ?_
                              refine ops_done (by kernel_rfl) ?_
                              refine hK125 _ _ ?_
                              clear hK125
                              refine W.cond (!decide (r55.1 = 1)) (by kernel_rfl) (fun h147 => ?_) (fun h147 => ?_)
                              rotate_left
                              ·
                                have h147p : r55.1 = 1 := of_decide_eq_true (bnot_false h147)
                                replace hm := ite_yes hm h147p
                                refine W.skip ?_
                                exact ⟨slots_intro _ (by kernel_rfl), hs85, hm⟩
                              ·
                                have h147p : ¬ (r55.1 = 1) := of_decide_eq_false (bnot_true h147)
                                replace hm := ite_no hm h147p
                                refine W.seq fun K148 hK148 => ?_
                                refine W.region ?_
                                refine ops_run 1 (by kernel_rfl) ?_
                                refine ops_done (by kernel_rfl) ?_
                                refine hK148 _ _ ?_
                                clear hK148
                                refine W.ret (ret_seq ?_)
                                have hs149 := St.tk0 hs85
                                refine ret_of (.bool false) (by kernel_rfl) ⟨_, ⟨congrArg Value.bool (some_inj hm), rfl⟩, hs149⟩
                          ·
                            have h145p : ¬ ((r55.1 = 3) ↔ (n_ < (2 + b_.tmod 9))) := beq_no decide_eq_true_iff decide_eq_true_iff (bnot_true h145)
                            replace hm := ite_no hm h145p
                            refine ops_set 107 (v := .bool true) (eq_bool_of (by kernel_rfl) h145) ?_
                            refine ops_set 105 (v := .bool true) (eq_bool_of (by kernel_rfl) h145) ?_
                            refine ops_set 106 (v := .bool true) (eq_bool_of (by kernel_rfl) h145) ?_
                            refine ops_run 7 (by kernel_rfl) ?_
                            refine ops_done (by kernel_rfl) ?_
                            refine hK125 _ _ ?_
                            clear hK125
                            refine W.cond_true true (by kernel_rfl) rfl ?_
                            refine W.seq fun K150 hK150 => ?_
                            refine W.region ?_
                            refine ops_run 1 (by kernel_rfl) ?_
                            refine ops_done (by kernel_rfl) ?_
                            refine hK150 _ _ ?_
                            clear hK150
                            refine W.ret (ret_seq ?_)
                            have hs151 := St.tk0 hs85
                            refine ret_of (.bool false) (by kernel_rfl) ⟨_, ⟨congrArg Value.bool (some_inj hm), rfl⟩, hs151⟩
                        ·
                          have h144p : ¬ (n_ > 0) := of_decide_eq_false h144
                          replace hm := ite_no hm h144p
                          refine ops_set 99 (v := .bool false) (eq_bool_of (by kernel_rfl) h144) ?_
                          refine ops_set 98 (v := .bool false) (eq_bool_of (by kernel_rfl) h144) ?_
                          refine ops_run 8 (by kernel_rfl) ?_
                          rcases Bool.eq_false_or_eq_true (!((decide (r55.1 = 3)) == false)) with h152 | h152
                          rotate_left
                          ·
                            have h152p : ((r55.1 = 3) ↔ False) := beq_yes decide_eq_true_iff ff_iff (bnot_false h152)
                            replace hm := ite_yes hm h152p
                            refine ops_set 107 (v := .bool false) (eq_bool_of (by kernel_rfl) h152) ?_
                            refine ops_set 105 (v := .bool false) (eq_bool_of (by kernel_rfl) h152) ?_
                            refine ops_set 106 (v := .bool false) (eq_bool_of (by kernel_rfl) h152) ?_
                            refine ops_run 3 (by kernel_rfl) ?_
                            rcases Bool.eq_false_or_eq_true (!decide (r55.1 = 3)) with h153 | h153
                            rotate_left
                            ·
                              have h153p : r55.1 = 3 := of_decide_eq_true (bnot_false h153)
                              replace hm := ite_yes hm h153p
                              refine ops_set 110 (v := .bool false) (eq_bool_of (by kernel_rfl) h153) ?_
                              refine ops_set 109 (v := .bool false) (eq_bool_of (by kernel_rfl) h153) ?_
                              refine ops_run 4 (by kernel_rfl) ?_
                              refine ops_done (by kernel_rfl) ?_
                              refine hK125 _ _ ?_
                              clear hK125
                              refine W.cond_false false (by kernel_rfl) rfl ?_
                              refine W.skip ?_
                              exact ⟨slots_intro _ (by kernel_rfl), hs85, hm⟩
                            ·
                              have h153p : ¬ (r55.1 = 3) := of_decide_eq_false (bnot_true h153)
                              replace hm := ite_no hm h153p
                              refine ops_set 110 (v := .bool true) (eq_bool_of (by kernel_rfl) h153) ?_
                              refine ops_set 109 (v := .bool true) (eq_bool_of (by kernel_rfl) h153) ?_
                              refine ops_run 4 (by kernel_rfl) ?_
                              refine ops_done (by kernel_rfl) ?_
                              refine hK125 _ _ ?_
                              clear hK125
                              refine W.cond (!decide (r55.1 = 1)) (by kernel_rfl) (fun h154 => ?_) (fun h154 => ?_)
                              rotate_left
                              ·
                                have h154p : r55.1 = 1 := of_decide_eq_true (bnot_false h154)
                                replace hm := ite_yes hm h154p
                                refine W.skip ?_
                                exact ⟨slots_intro _ (by kernel_rfl), hs85, hm⟩
                              ·
                                have h154p : ¬ (r55.1 = 1) := of_decide_eq_false (bnot_true h154)
                                replace hm := ite_no hm h154p
                                refine W.seq fun K155 hK155 => ?_
                                refine W.region ?_
                                refine ops_run 1 (by kernel_rfl) ?_
                                refine ops_done (by kernel_rfl) ?_
                                refine hK155 _ _ ?_
                                clear hK155
                                refine W.ret (ret_seq ?_)
                                have hs156 := St.tk0 hs85
                                refine ret_of (.bool false) (by kernel_rfl) ⟨_, ⟨congrArg Value.bool (some_inj hm), rfl⟩, hs156⟩
                          ·
                            have h152p : ¬ ((r55.1 = 3) ↔ False) := beq_no decide_eq_true_iff ff_iff (bnot_true h152)
                            replace hm := ite_no hm h152p
                            refine ops_set 107 (v := .bool true) (eq_bool_of (by kernel_rfl) h152) ?_
                            refine ops_set 105 (v := .bool true) (eq_bool_of (by kernel_rfl) h152) ?_
                            refine ops_set 106 (v := .bool true) (eq_bool_of (by kernel_rfl) h152) ?_
                            refine ops_run 7 (by kernel_rfl) ?_
                            refine ops_done (by kernel_rfl) ?_
                            refine hK125 _ _ ?_
                            clear hK125
                            refine W.cond_true true (by kernel_rfl) rfl ?_
                            refine W.seq fun K157 hK157 => ?_
                            refine W.region ?_
                            refine ops_run 1 (by kernel_rfl) ?_
                            refine ops_done (by kernel_rfl) ?_
                            refine hK157 _ _ ?_
                            clear hK157
                            refine W.ret (ret_seq ?_)
                            have hs158 := St.tk0 hs85
                            refine ret_of (.bool false) (by kernel_rfl) ⟨_, ⟨congrArg Value.bool (some_inj hm), rfl⟩, hs158⟩
                      ·
                        have h143p : ¬ (r45.1 = 0) := of_decide_eq_false (bnot_true h143)
                        replace hm := ite_no hm h143p
                        refine ops_set 94 (v := .bool true) (eq_bool_of (by kernel_rfl) h143) ?_
                        refine ops_set 91 (v := .bool true) (eq_bool_of (by kernel_rfl) h143) ?_
                        refine ops_set 92 (v := .bool true) (eq_bool_of (by kernel_rfl) h143) ?_
                        refine ops_set 93 (v := .bool true) (eq_bool_of (by kernel_rfl) h143) ?_
                        refine ops_run 20 (by kernel_rfl) ?_
                        refine ops_done (by kernel_rfl) ?_
                        refine hK125 _ _ ?_
                        clear hK125
                        refine W.cond_true true (by kernel_rfl) rfl ?_
                        refine W.seq fun K159 hK159 => ?_
                        refine W.region ?_
                        refine ops_run 1 (by kernel_rfl) ?_
                        refine ops_done (by kernel_rfl) ?_
                        refine hK159 _ _ ?_
                        clear hK159
                        refine W.ret (ret_seq ?_)
                        have hs160 := St.tk0 hs85
                        refine ret_of (.bool false) (by kernel_rfl) ⟨_, ⟨congrArg Value.bool (some_inj hm), rfl⟩, hs160⟩
                    ·
                      have h142p : ¬ (n_ = 1) := of_decide_eq_false (bnot_true h142)
                      replace hm := ite_no hm h142p
                      refine ops_set 89 (v := .bool true) (eq_bool_of (by kernel_rfl) h142) ?_
                      refine ops_set 88 (v := .bool true) (eq_bool_of (by kernel_rfl) h142) ?_
                      refine ops_run 25 (by kernel_rfl) ?_
                      refine ops_done (by kernel_rfl) ?_
                      refine hK125 _ _ ?_
                      clear hK125
                      refine W.cond_true true (by kernel_rfl) rfl ?_
                      refine W.seq fun K161 hK161 => ?_
                      refine W.region ?_
                      refine ops_run 1 (by kernel_rfl) ?_
                      refine ops_done (by kernel_rfl) ?_
                      refine hK161 _ _ ?_
                      clear hK161
                      refine W.ret (ret_seq ?_)
                      have hs162 := St.tk0 hs85
                      refine ret_of (.bool false) (by kernel_rfl) ⟨_, ⟨congrArg Value.bool (some_inj hm), rfl⟩, hs162⟩
            ·
              have h80p : ¬ (r65.2 = ((2 + b_.tmod 9) - 1)) := of_decide_eq_false (bnot_true h80)
              replace hm := ite_no hm h80p
              refine ops_set 78 (v := .bool true) (eq_bool_of (by kernel_rfl) h80) ?_
              refine ops_set 76 (v := .bool true) (eq_bool_of (by kernel_rfl) h80) ?_
              refine ops_set 77 (v := .bool true) (eq_bool_of (by kernel_rfl) h80) ?_
              refine ops_run 5 (by kernel_rfl) ?_
              refine ops_done (by kernel_rfl) ?_
              refine hK75 _ _ ?_
              clear hK75
              refine W.cond_true true (by kernel_rfl) rfl ?_
              refine W.seq fun K163 hK163 => ?_
              refine W.region ?_
              refine ops_run 1 (by kernel_rfl) ?_
              refine ops_done (by kernel_rfl) ?_
              refine hK163 _ _ ?_
              clear hK163
              refine W.ret (ret_seq ?_)
              have hs164 := St.tk0 hs73
              refine ret_of (.bool false) (by kernel_rfl) ⟨_, ⟨congrArg Value.bool (some_inj hm), rfl⟩, hs164⟩
          ·
            have h78p : ¬ (r65.1 = p71) := of_decide_eq_false (bnot_true h78)
            replace hm := ite_no hm h78p
            refine ops_set 71 (v := .bool true) (eq_bool_of (by kernel_rfl) h78) ?_
            refine ops_set 69 (v := .bool true) (eq_bool_of (by kernel_rfl) h78) ?_
            refine ops_set 70 (v := .bool true) (eq_bool_of (by kernel_rfl) h78) ?_
            refine ops_run 12 (by kernel_rfl) ?_
            refine ops_done (by kernel_rfl) ?_
            refine hK75 _ _ ?_
            clear hK75
            refine W.cond_true true (by kernel_rfl) rfl ?_
            refine W.seq fun K165 hK165 => ?_
            refine W.region ?_
            refine ops_run 1 (by kernel_rfl) ?_
            refine ops_done (by kernel_rfl) ?_
            refine hK165 _ _ ?_
            clear hK165
            refine W.ret (ret_seq ?_)
            have hs166 := St.tk0 hs73
            refine ret_of (.bool false) (by kernel_rfl) ⟨_, ⟨congrArg Value.bool (some_inj hm), rfl⟩, hs166⟩
        ·
          have h77p : ¬ (r35.1 = 0) := of_decide_eq_false (bnot_true h77)
          replace hm := ite_no hm h77p
          refine ops_set 66 (v := .bool true) (eq_bool_of (by kernel_rfl) h77) ?_
          refine ops_set 64 (v := .bool true) (eq_bool_of (by kernel_rfl) h77) ?_
          refine ops_set 65 (v := .bool true) (eq_bool_of (by kernel_rfl) h77) ?_
          refine ops_run 17 (by kernel_rfl) ?_
          refine ops_done (by kernel_rfl) ?_
          refine hK75 _ _ ?_
          clear hK75
          refine W.cond_true true (by kernel_rfl) rfl ?_
          refine W.seq fun K167 hK167 => ?_
          refine W.region ?_
          refine ops_run 1 (by kernel_rfl) ?_
          refine ops_done (by kernel_rfl) ?_
          refine hK167 _ _ ?_
          clear hK167
          refine W.ret (ret_seq ?_)
          have hs168 := St.tk0 hs73
          refine ret_of (.bool false) (by kernel_rfl) ⟨_, ⟨congrArg Value.bool (some_inj hm), rfl⟩, hs168⟩
      ·
        have h76p : ¬ (r35.2.1 = 7) := of_decide_eq_false (bnot_true h76)
        replace hm := ite_no hm h76p
        refine ops_set 62 (v := .bool true) (eq_bool_of (by kernel_rfl) h76) ?_
        refine ops_set 61 (v := .bool true) (eq_bool_of (by kernel_rfl) h76) ?_
        refine ops_run 21 (by kernel_rfl) ?_
        refine ops_done (by kernel_rfl) ?_
        refine hK75 _ _ ?_
        clear hK75
        refine W.cond_true true (by kernel_rfl) rfl ?_
        refine W.seq fun K169 hK169 => ?_
        refine W.region ?_
        refine ops_run 1 (by kernel_rfl) ?_
        refine ops_done (by kernel_rfl) ?_
        refine hK169 _ _ ?_
        clear hK169
        refine W.ret (ret_seq ?_)
        have hs170 := St.tk0 hs73
        refine ret_of (.bool false) (by kernel_rfl) ⟨_, ⟨congrArg Value.bool (some_inj hm), rfl⟩, hs170⟩
    ·
      refine W.seq fun K171 hK171 => ?_
      refine W.region ?_
      refine ops_run 2 (by kernel_rfl) ?_
      refine ops_done (by kernel_rfl) ?_
      refine hK171 _ _ ?_
      clear hK171
      refine W.cond (decide (n_ = 1)) (by kernel_rfl) (fun h172 => ?_) (fun h172 => ?_)
      ·
        have h172p : n_ = 1 := of_decide_eq_true h172
        replace hm := ite_yes hm h172p
        refine W.region ?_
        refine ops_run 1 (by kernel_rfl) ?_
        refine ops_done (by kernel_rfl) ?_
        have hs173 := St.f5 hs69
        have hs174 := St.f5 hs173
        have hs175 := St.f2 hs174
        have hs176 := St.f4 hs175
        have hs177 := St.f4 hs176
        have hs178 := St.f5 hs177
        exact ⟨1, slots_intro _ (by kernel_rfl), hs178, hm⟩
      ·
        have h172p : ¬ (n_ = 1) := of_decide_eq_false h172
        replace hm := ite_no hm h172p
        refine W.skip ?_
        have hs179 := St.f5 hs69
        have hs180 := St.f5 hs179
        have hs181 := St.f2 hs180
        have hs182 := St.f4 hs181
        have hs183 := St.f4 hs182
        have hs184 := St.f5 hs183
        exact ⟨0, slots_intro _ (by kernel_rfl), hs184, hm⟩
  ·
    have h25p : ¬ (May 1 2 (2 + b_.tmod 9) ∧ wordsOf 1 2 (2 + b_.tmod 9) ≤ ((fmtW 1 2 (2 + b_.tmod 9)).length : Int)) := of_decide_eq_false h25
    replace hm := ite_no hm h25p
    refine ops_call0 hs22 (by kernel_rfl) (anew_err (gw := 1) (gi := 2) (gb := (2 + b_.tmod 9)) (hv := (hs22.entAt 0 rfl viewA_at)) (hz := h24) (hN := h25p) B _) ?_
    rintro _ _ w185 ⟨rfl, rfl⟩ hs186
    have hs187 := St.ap0 hs186
    refine ops_run 5 (by kernel_rfl) ?_
    obtain ⟨r188, h189, hm⟩ := bind_some hm
    replace h189 := some_inj h189
    refine ops_set 9 (v := .int .i64 r188) (Eq.trans (by kernel_rfl) (congrArg (Value.int .i64) h189)) ?_
    refine ops_done (by kernel_rfl) ?_
    refine hK23 _ _ ?_
    clear hK23
    refine W.seq fun K190 hK190 => ?_
    refine W.seq fun K191 hK191 => ?_
    refine W.region ?_
    refine ops_run 10 (by kernel_rfl) ?_
    refine ops_done (by kernel_rfl) ?_
    refine hK191 _ _ ?_
    clear hK191
    refine W.cond_true true (by kernel_rfl) rfl ?_
    refine W.seq fun K192 hK192 => ?_
    refine W.region ?_
    refine ops_run 1 (by kernel_rfl) ?_
    refine ops_done (by kernel_rfl) ?_
    refine hK192 _ _ ?_
    clear hK192
    refine W.ret (ret_seq ?_)
    have hs193 := St.tk0 hs187
    refine ret_of (.bool false) (by kernel_rfl) ⟨_, ⟨congrArg Value.bool (some_inj hm), rfl⟩, hs193⟩

end Go.Proofs.YthimamnblklkbaaDoor
