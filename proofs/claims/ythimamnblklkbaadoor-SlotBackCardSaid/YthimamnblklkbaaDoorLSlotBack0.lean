/- Texts, one behind the other: ALsBa, PLsBa. -/
import Derived.Test.YthimamnblklkbaaDoorQSN4
set_option linter.unusedVariables false
set_option linter.unusedSimpArgs false
set_option linter.unusedVariables false
set_option maxRecDepth 20000
set_option maxHeartbeats 4000000
namespace Go.Proofs.YthimamnblklkbaaDoor
open Go Go.RowKit
set_option linter.unusedSimpArgs false
set_option linter.unusedVariables false

def slotback_J2 (r31 : List Int) (r81 : Int × List (Int × Int)) : Option (Bool) :=
 if (((vflat r31 r81.2).length) : Int) = (r31.length : Int) then ((works10_M).bind fun r116 =>
some r116) else (some false)

def slotback_B0 (r31 : List Int) (r81 : Int × List (Int × Int)) (r104 : Int) (k125 : Int → Option (Bool)) (p124 : Int) : Option (Bool) :=
 if p124 < (r31.length : Int) then (if p124 < (((vflat r31 r81.2).length) : Int) then (if p124 < r104 then (need (0 ≤ p124 ∧ p124 < (((vflat r31 r81.2).length) : Int)) <|
need (0 ≤ p124 ∧ p124 < (r31.length : Int)) <|
if ((vflat r31 r81.2).getD p124.toNat 0) = (r31.getD p124.toNat 0) then (need (-9223372036854775808 ≤ (p124 + 1) ∧ (p124 + 1) ≤ 9223372036854775807) <|
k125 (p124 + 1)) else (some false)) else (need (-9223372036854775808 ≤ (r104 + 12) ∧ (r104 + 12) ≤ 9223372036854775807) <|
if p124 ≥ (r104 + 12) then (need (0 ≤ p124 ∧ p124 < (((vflat r31 r81.2).length) : Int)) <|
need (0 ≤ p124 ∧ p124 < (r31.length : Int)) <|
if ((vflat r31 r81.2).getD p124.toNat 0) = (r31.getD p124.toNat 0) then (need (-9223372036854775808 ≤ (p124 + 1) ∧ (p124 + 1) ≤ 9223372036854775807) <|
k125 (p124 + 1)) else (some false)) else (need (-9223372036854775808 ≤ (p124 + 1) ∧ (p124 + 1) ≤ 9223372036854775807) <|
k125 (p124 + 1)))) else (slotback_J2 r31 r81)) else (slotback_J2 r31 r81)

def slotback_J1 (i_ : Int) (k_ : Int) (q_ : Int) (re_ : Int) (ra_ : Int) (rb_ : Int) (rs_ : ByteArray) (r31 : List Int) (r48 : Int × List (Int × Int)) : Option (Bool) :=
 if r48.1 = 0 then ((sload_M r31 r48.2 (i_.tmod 4) (k_.tmod 4)).bind fun r59 =>
if r59.2.2.2.2.2 = 0 then (if r59.1 = q_ then (if r59.2.1 = re_ ∧ r59.2.2.1 = ra_ ∧ r59.2.2.2.1 = rb_ ∧ r59.2.2.2.2.1 = rs_ then ((ssave_M r31 r48.2 (i_.tmod 4) (k_.tmod 4) q_ re_ ra_ rb_ rs_).bind fun r81 =>
if r81.1 = 0 then (if (r81.2.length : Int) = (r48.2.length : Int) then (need (-9223372036854775808 ≤ ((rs_.size : Int) + 7) ∧ ((rs_.size : Int) + 7) ≤ 9223372036854775807) <|
need (-9223372036854775808 ≤ (((rs_.size : Int) + 7).tdiv 8) ∧ (((rs_.size : Int) + 7).tdiv 8) ≤ 9223372036854775807) <|
need (-9223372036854775808 ≤ (4 + (((rs_.size : Int) + 7).tdiv 8)) ∧ (4 + (((rs_.size : Int) + 7).tdiv 8)) ≤ 9223372036854775807) <|
if (r48.2.length : Int) > (4 + (((rs_.size : Int) + 7).tdiv 8)) then (some false) else ((some (slotAt (i_.tmod 4) (k_.tmod 4))).bind fun r104 =>
iter (fun k_ s_ => slotback_B0 r31 r81 r104 k_ s_) FUEL 0)) else (some false)) else (some false)) else (some false)) else (some false)) else (some false)) else ((works10_M).bind fun r174 =>
some r174)

def slotback_M (ts : List TTn) (i_ : Int) (k_ : Int) (q_ : Int) (re_ : Int) (ra_ : Int) (rb_ : Int) (rs_ : ByteArray) : Option (Bool) :=
 if (ts.length : Int) > 40 then ((works10_M).bind fun r9 =>
some r9) else (if (rs_.size : Int) > 1000 then ((works10_M).bind fun r17 =>
some r17) else (need ((0 : Int) ≤ 0 ∧ (0 : Int) ≤ 255) <|
need ((0 : Int) ≤ 0 ∧ (0 : Int) ≤ 255) <|
(image_M 1 (2 + 0 % 20) (2 + 0 % 60) ts 0).bind fun r31 =>
need (r31.length ≤ 17592186044415) <|
need (-9223372036854775808 ≤ i_ ∧ i_ ≤ 9223372036854775807) <|
need (-9223372036854775808 ≤ k_ ∧ k_ ≤ 9223372036854775807) <|
(ssave_M r31 ([]) (i_.tmod 4) (k_.tmod 4) q_ re_ ra_ rb_ rs_).bind fun r48 =>
if q_ ≥ 1 then (if q_ ≤ 1099511627776 then ((smay10_M re_ rs_).bind fun r183 =>
if ((r48.1 = 0) ↔ (r183 = true)) then (if r48.1 = 0 then (slotback_J1 i_ k_ q_ re_ ra_ rb_ rs_ r31 r48) else (if r48.1 = 1 then (if (r48.2.length : Int) > 0 then (some false) else (slotback_J1 i_ k_ q_ re_ ra_ rb_ rs_ r31 r48)) else (some false))) else (some false)) else (if ((r48.1 = 0) ↔ False) then (if r48.1 = 0 then (slotback_J1 i_ k_ q_ re_ ra_ rb_ rs_ r31 r48) else (if r48.1 = 1 then (if (r48.2.length : Int) > 0 then (some false) else (slotback_J1 i_ k_ q_ re_ ra_ rb_ rs_ r31 r48)) else (some false))) else (some false))) else (if ((r48.1 = 0) ↔ False) then (if r48.1 = 0 then (slotback_J1 i_ k_ q_ re_ ra_ rb_ rs_ r31 r48) else (if r48.1 = 1 then (if (r48.2.length : Int) > 0 then (some false) else (slotback_J1 i_ k_ q_ re_ ra_ rb_ rs_ r31 r48)) else (some false))) else (some false))))

theorem slotback_walk {ts : List TTn} {i_ : Int} {k_ : Int} {q_ : Int} {re_ : Int} {ra_ : Int} {rb_ : Int} {rs_ : ByteArray} {ta : Option Addr} {tc : Nat}  (B : Nat) (w : World) (hB : w.heap.size = B) (hL : CellsAt (some ⟨1, 0, none⟩) [(.int .i64 1), (.int .i64 2), (.int .i64 2)] w) (ht : CellsAt ta (kTn.cells ts) w) (hm : slotback_M ts i_ k_ q_ re_ ra_ rb_ rs_ = some true) : Spec Tryd.prog 9 #[(.slice ta ts.length tc), (.int .u8 i_), (.int .u8 k_), (.int .u64 q_), (.agg #[(.int .i64 re_), (.int .u64 ra_), (.int .u64 rb_), (.string rs_)])] B w [] (fun v H' => v = .bool true ∧ H' = []) := by
 refine spec_Q Tryd.func9 rfl fun hs => ?_
 unfold slotback_M at hm
 have hG2 : 1 < B := by rw [← hB]; exact lt_of_cells hL (v := .int .i64 1) rfl
 refine W.sr fun K1 hK1 => ?_
 refine zN [(.int .i64 re_), (.int .u64 ra_), (.int .u64 rb_), (.string rs_)] 46 hs fun b4 w2 hs3 => ?_
 refine zE 1 (hK1 _ _ ?_)
 refine W.seq fun K5 hK5 => ?_
 refine W.sr fun K6 hK6 => ?_
 refine zR 4 ?_
 rcases Bool.eq_false_or_eq_true (decide ((ts.length : Int) > 40)) with h7 | h7
 ·
  obtain ⟨h7p, hm⟩ := iY hm h7
  refine zS 26 h7 ?_
  refine zS 25 h7 ?_
  refine zE 5 (hK6 _ _ ?_)
  refine W.cond_true true (by kernel_rfl) rfl ?_
  refine W.sr fun K8 hK8 => ?_
  obtain ⟨r9, h10, hm⟩ := bind_some hm
  refine zC00 hs3 (works10_walk (hG2 := hG2) (hL := (hs3.oldCells hL)) (hm := h10) B _) fun w11 hs13 => ?_
  refine zE 1 (hK8 _ _ ?_)
  refine W.ret (ret_seq ?_)
  have hs14 := St.tk0 hs13
  refine ret_of (.bool r9) (by kernel_rfl) ⟨_, ⟨congrArg Value.bool (some_inj hm), rfl⟩, hs14⟩
 ·
  obtain ⟨h7p, hm⟩ := iN hm h7
  refine zS 26 h7 ?_
  refine zS 25 h7 ?_
  refine zR 1 ?_
  refine zL ⟨b4, 3, none⟩ (.string rs_) (hs3.cellAt 0 rfl rfl) ?_
  refine zE 3 (hK6 _ _ ?_)
  refine W.cond (decide ((rs_.size : Int) > 1000)) (by kernel_rfl) (fun h15 => ?_) (fun h15 => ?_)
  ·
   obtain ⟨h15p, hm⟩ := iY hm h15
   refine W.sr fun K16 hK16 => ?_
   obtain ⟨r17, h18, hm⟩ := bind_some hm
   refine zC00 hs3 (works10_walk (hG2 := hG2) (hL := (hs3.oldCells hL)) (hm := h18) B _) fun w19 hs21 => ?_
   refine zE 1 (hK16 _ _ ?_)
   refine W.ret (ret_seq ?_)
   have hs22 := St.tk0 hs21
   refine ret_of (.bool r17) (by kernel_rfl) ⟨_, ⟨congrArg Value.bool (some_inj hm), rfl⟩, hs22⟩
  ·
   obtain ⟨h15p, hm⟩ := iN hm h15
   refine W.skip ?_
   refine hK5 _ _ ?_
   refine W.sr fun K23 hK23 => ?_
   obtain ⟨h24, hm⟩ := need_some hm
   obtain ⟨h25, hm⟩ := need_some hm
   refine zC00 hs3 (small_spec (x_ := 0) (y_ := 0) (hx := h24) (hy := h25) B _) fun w26 hs28 => ?_
   refine zR 1 ?_
   obtain ⟨r31, h32, hm⟩ := bind_some hm
   refine ops_call0 hs28 (by kernel_rfl) (image_walk (tc := tc) (ht := (hs28.oldCells ht)) (hm := h32) B _) ?_
   rintro _ _ w33 ⟨a29, c30, rfl, rfl⟩ hs34
   have hs35 := St.ap1 hs34
   refine zE 1 (hK23 _ _ ?_)
   refine W.sr fun K36 hK36 => ?_
   refine zR 1 ?_
   obtain ⟨h38, hm⟩ := need_some hm
   refine ops_call0 hs35 (by kernel_rfl) (new_spec (hc := (St.kcells kU64 hs35 0 rfl)) (hn := (St.capnil kU64 hs35 0 rfl)) (hsz := h38) B _) ?_
   rintro _ _ w39 ⟨b37, rfl, rfl⟩ hs40
   have hs41 := St.ap1 hs40
   refine zE 1 (hK36 _ _ ?_)
   refine W.seq fun K42 hK42 => ?_
   refine W.sr fun K43 hK43 => ?_
   refine zE 2 (hK43 _ _ ?_)
   refine W.cond_false false (by kernel_rfl) rfl ?_
   refine W.skip ?_
   refine hK42 _ _ ?_
   refine W.sr fun K44 hK44 => ?_
   refine zR 1 ?_
   obtain ⟨h45, hm⟩ := need_some hm
   refine zI _ (wrap_i64 h45.1 h45.2) ?_
   refine zR 2 ?_
   obtain ⟨h46, hm⟩ := need_some hm
   refine zI _ (wrap_i64 h46.1 h46.2) ?_
   refine zE 3 (hK44 _ _ ?_)
   refine W.sr fun K47 hK47 => ?_
   refine zR 4 ?_
   refine ops_R (runs_loadAgg (ad := ⟨b4, 0, none⟩) (cs := [(.int .i64 re_), (.int .u64 ra_), (.int .u64 rb_), (.string rs_)]) (by kernel_rfl) (cells_sub (hs41.heapAt 2 rfl) rfl)) ?_
   obtain ⟨r48, h49, hm⟩ := bind_some hm
   refine zC11 hs41 (ssave_walk (vb := b37) (i_ := i_.tmod 4) (k_ := k_.tmod 4) (q_ := q_) (re_ := re_) (ra_ := ra_) (rb_ := rb_) (rs_ := rs_) (img := r31) (l := []) (hG2 := hG2) (hL := (hs41.oldCells hL)) (hm := h49) B _) fun w50 hs52 => ?_
   refine zE 1 (hK47 _ _ ?_)
   refine W.seq_join (fun s_ w_ => (∃ us, s_ = slots 176 [(3, (.int .u64 q_)), (9, (.pointer (some ⟨b4, 0, none⟩))), (11, (.slice a29 r31.length c30)), (12, (.pointer (some ⟨b37, 0, none⟩))), (13, (.int .i64 (i_.tmod 4))), (14, (.int .i64 (k_.tmod 4))), (15, (.int .i64 r48.1))] us) ∧ St B w [] w_ [blk b4 (.cells [(.int .i64 re_), (.int .u64 ra_), (.int .u64 rb_), (.string rs_)].toArray 46 (0, 0)), kU64.row a29 c30 r31, viewA (ptr b37) r31 r48.2] ∧ slotback_J1 i_ k_ q_ re_ ra_ rb_ rs_ r31 r48 = some true) ?_ ?_
   ·
    rintro _ w53 ⟨⟨us, rfl⟩, hs54, hm⟩
    unfold slotback_J1 at hm
    refine W.seq fun K55 hK55 => ?_
    refine W.sr fun K56 hK56 => ?_
    refine zE 2 (hK56 _ _ ?_)
    refine W.cond (!decide (r48.1 = 0)) (by kernel_rfl) (fun h57 => ?_) (fun h57 => ?_)
    rotate_left
    ·
     have h57p : r48.1 = 0 := of_decide_eq_true (bnot_false h57)
     replace hm := ite_yes hm h57p
     refine W.skip ?_
     refine hK55 _ _ ?_
     refine W.sr fun K58 hK58 => ?_
     refine zR 3 ?_
     obtain ⟨r59, h60, hm⟩ := bind_some hm
     refine zC00 hs54 (sload_walk (i_ := i_.tmod 4) (k_ := k_.tmod 4) (img := r31) (l := r48.2) (hL := (hs54.oldCells hL)) (hv := (hs54.entAt 2 rfl viewA_at)) (hm := h60) B _) fun w61 hs63 => ?_
     refine zR 4 ?_
     refine zN [(.int .i64 0), (.int .u64 0), (.int .u64 0), (.string ByteArray.empty)] 46 hs63 fun b66 w64 hs65 => ?_
     refine zR 1 ?_
     refine ops_store (off := 0) (cs := [(.int .i64 0), (.int .u64 0), (.int .u64 0), (.string ByteArray.empty)]) (vs := [(.int .i64 r59.2.1), (.int .u64 r59.2.2.1), (.int .u64 r59.2.2.2.1), (.string r59.2.2.2.2.1)]) hs65 (by kernel_rfl) (by simp) rfl (fun w67 hs68 => ?_)
     have hs69 : St B w [] w67 [blk b66 (.cells [(.int .i64 r59.2.1), (.int .u64 r59.2.2.1), (.int .u64 r59.2.2.2.1), (.string r59.2.2.2.2.1)].toArray 46 (0, 0)), blk b4 (.cells [(.int .i64 re_), (.int .u64 ra_), (.int .u64 rb_), (.string rs_)].toArray 46 (0, 0)), kU64.row a29 c30 r31, viewA (ptr b37) r31 r48.2] := hs68
     refine zE 1 (hK58 _ _ ?_)
     refine W.sr fun K70 hK70 => ?_
     refine zR 1 ?_
     refine ops_call0 hs69 (by kernel_rfl) (writes_spec (hv := (hs69.entAt 3 rfl viewA_at)) B _) ?_
     rintro _ _ w73 ⟨a71, c72, rfl, rfl⟩ hs74
     have hs75 := St.ap1 hs74
     refine zE 2 (hK70 _ _ ?_)
     refine W.seq fun K76 hK76 => ?_
     refine W.sr fun K77 hK77 => ?_
     refine zR 3 ?_
     rcases Bool.eq_false_or_eq_true (!decide (r59.2.2.2.2.2 = 0)) with h78 | h78
     rotate_left
     ·
      have h78p : r59.2.2.2.2.2 = 0 := of_decide_eq_true (bnot_false h78)
      replace hm := ite_yes hm h78p
      refine zS 95 h78 ?_
      refine zS 94 h78 ?_
      refine zR 5 ?_
      rcases Bool.eq_false_or_eq_true (!decide (r59.1 = q_)) with h79 | h79
      rotate_left
      ·
       have h79p : r59.1 = q_ := of_decide_eq_true (bnot_false h79)
       replace hm := ite_yes hm h79p
       refine zS 100 h79 ?_
       refine zS 98 h79 ?_
       refine zS 99 h79 ?_
       refine ops_R (runs_loadAgg (ad := ⟨b66, 0, none⟩) (cs := [(.int .i64 r59.2.1), (.int .u64 r59.2.2.1), (.int .u64 r59.2.2.2.1), (.string r59.2.2.2.2.1)]) (by kernel_rfl) (cells_sub (hs75.heapAt 1 rfl) rfl)) ?_
       refine ops_R (runs_loadAgg (ad := ⟨b4, 0, none⟩) (cs := [(.int .i64 re_), (.int .u64 ra_), (.int .u64 rb_), (.string rs_)]) (by kernel_rfl) (cells_sub (hs75.heapAt 2 rfl) rfl)) ?_
       refine ops_R (v := (.bool (!((decide (r59.2.1 = re_)) && ((decide (r59.2.2.1 = ra_)) && ((decide (r59.2.2.2.1 = rb_)) && ((r59.2.2.2.2.1 == rs_) && true))))))) (runs_eq (b := !((decide (r59.2.1 = re_)) && ((decide (r59.2.2.1 = ra_)) && ((decide (r59.2.2.2.1 = rb_)) && ((r59.2.2.2.2.1 == rs_) && true))))) (by kernel_rfl)) ?_
       refine zR 2 ?_
       rcases Bool.eq_false_or_eq_true (!((decide (r59.2.1 = re_)) && ((decide (r59.2.2.1 = ra_)) && ((decide (r59.2.2.2.1 = rb_)) && ((r59.2.2.2.2.1 == rs_) && true))))) with h80 | h80
       rotate_left
       ·
        have h80p : r59.2.1 = re_ ∧ r59.2.2.1 = ra_ ∧ r59.2.2.2.1 = rb_ ∧ r59.2.2.2.2.1 = rs_ := by simpa using (bnot_false h80)
        replace hm := ite_yes hm h80p
        refine zS 105 h80 ?_
        refine zS 103 h80 ?_
        refine zS 104 h80 ?_
        refine zR 4 ?_
        refine ops_R (runs_loadAgg (ad := ⟨b4, 0, none⟩) (cs := [(.int .i64 re_), (.int .u64 ra_), (.int .u64 rb_), (.string rs_)]) (by kernel_rfl) (cells_sub (hs75.heapAt 2 rfl) rfl)) ?_
        obtain ⟨r81, h82, hm⟩ := bind_some hm
        have hs83 := St.f4 hs75
        refine zC11 hs83 (ssave_walk (vb := b37) (i_ := i_.tmod 4) (k_ := k_.tmod 4) (q_ := q_) (re_ := re_) (ra_ := ra_) (rb_ := rb_) (rs_ := rs_) (img := r31) (l := r48.2) (hG2 := hG2) (hL := (hs75.oldCells hL)) (hm := h82) B _) fun w84 hs86 => ?_
        refine zR 3 ?_
        rcases Bool.eq_false_or_eq_true (!decide (r81.1 = 0)) with h87 | h87
        rotate_left
        ·
         have h87p : r81.1 = 0 := of_decide_eq_true (bnot_false h87)
         replace hm := ite_yes hm h87p
         refine zS 114 h87 ?_
         refine zS 112 h87 ?_
         refine zS 113 h87 ?_
         refine zR 1 ?_
         refine ops_call0 hs86 (by kernel_rfl) (writes_spec (hv := (hs86.entAt 0 rfl viewA_at)) B _) ?_
         rintro _ _ w90 ⟨a88, c89, rfl, rfl⟩ hs91
         have hs92 := St.ap1 hs91
         refine zR 5 ?_
         rcases Bool.eq_false_or_eq_true (!decide ((r81.2.length : Int) = (r48.2.length : Int))) with h93 | h93
         rotate_left
         ·
          have h93p : (r81.2.length : Int) = (r48.2.length : Int) := of_decide_eq_true (bnot_false h93)
          replace hm := ite_yes hm h93p
          refine zS 121 h93 ?_
          refine zS 119 h93 ?_
          refine zS 120 h93 ?_
          refine zR 2 ?_
          refine zL ⟨b4, 3, none⟩ (.string rs_) (hs92.cellAt 4 rfl rfl) ?_
          refine zR 1 ?_
          obtain ⟨h94, hm⟩ := need_some hm
          refine zI _ (wrap_i64 h94.1 h94.2) ?_
          obtain ⟨h95, hm⟩ := need_some hm
          refine ops_R (v := .int .i64 (((rs_.size : Int) + 7).tdiv 8)) (runs_quo (k := .i64) (a := ((rs_.size : Int) + 7)) (b := 8) (by kernel_rfl) (by decide) (wrap_i64 h95.1 h95.2)) ?_
          obtain ⟨h96, hm⟩ := need_some hm
          refine zI _ (wrap_i64 h96.1 h96.2) ?_
          refine zE 2 (hK77 _ _ ?_)
          refine W.cond (decide ((r48.2.length : Int) > (4 + (((rs_.size : Int) + 7).tdiv 8)))) (by kernel_rfl) (fun h97 => ?_) (fun h97 => ?_)
          ·
           obtain ⟨h97p, hm⟩ := iY hm h97
           refine W.sr fun K98 hK98 => ?_
           refine zE 1 (hK98 _ _ ?_)
           refine W.ret (ret_seq ?_)
           have hs99 := St.tk0 hs92
           refine ret_of (.bool false) (by kernel_rfl) ⟨_, ⟨congrArg Value.bool (some_inj hm), rfl⟩, hs99⟩
          ·
           obtain ⟨h97p, hm⟩ := iN hm h97
           refine W.skip ?_
           refine hK76 _ _ ?_
           refine W.sr fun K100 hK100 => ?_
           refine zR 2 ?_
           refine zC00 hs92 (rslotat_spec (i_ := i_.tmod 4) (k_ := k_.tmod 4) B _) fun w101 hs103 => ?_
           refine zR 1 ?_
           obtain ⟨r104, h105, hm⟩ := bind_some hm
           replace h105 := some_inj h105
           refine ops_set 20 (v := .int .i64 r104) (Eq.trans (by kernel_rfl) (congrArg (Value.int .i64) h105)) ?_
           refine zD (hK100 _ _ ?_)
           refine W.sr fun K106 hK106 => ?_
           refine zR 1 ?_
           refine ops_call0 hs103 (by kernel_rfl) (flat_spec (hv := (hs103.entAt 1 rfl viewA_at)) B _) ?_
           rintro _ _ w109 ⟨a107, c108, rfl, rfl⟩ hs110
           have hs111 := St.ap1 hs110
           refine zE 1 (hK106 _ _ ?_)
           refine W.seq_join (fun s_ w_ => (∃ us, s_ = slots 176 [(11, (.slice a29 r31.length c30)), (21, (.slice a107 ((vflat r31 r81.2).length) c108))] us) ∧ St B w [] w_ [kU64.row a29 c30 r31, kU64.row a107 c108 (vflat r31 r81.2), kWr.row a88 c89 r81.2, viewA (ptr b37) r31 r81.2, kWr.row a71 c72 r48.2, blk b66 (.cells [(.int .i64 r59.2.1), (.int .u64 r59.2.2.1), (.int .u64 r59.2.2.2.1), (.string r59.2.2.2.2.1)].toArray 46 (0, 0)), blk b4 (.cells [(.int .i64 re_), (.int .u64 ra_), (.int .u64 rb_), (.string rs_)].toArray 46 (0, 0))] ∧ slotback_J2 r31 r81 = some true) ?_ ?_
           ·
            rintro _ w112 ⟨⟨us, rfl⟩, hs113, hm⟩
            unfold slotback_J2 at hm
            refine W.sr fun K114 hK114 => ?_
            refine zR 6 ?_
            rcases Bool.eq_false_or_eq_true (decide ((((vflat r31 r81.2).length) : Int) = (r31.length : Int))) with h115 | h115
            ·
             obtain ⟨h115p, hm⟩ := iY hm h115
             refine zS 173 h115 ?_
             refine zS 172 h115 ?_
             obtain ⟨r116, h117, hm⟩ := bind_some hm
             refine zC00 hs113 (works10_walk (hG2 := hG2) (hL := (hs113.oldCells hL)) (hm := h117) B _) fun w118 hs120 => ?_
             refine zE 2 (hK114 _ _ ?_)
             refine W.ret ?_
             have hs121 := St.tk0 hs120
             refine ret_of (.bool r116) (by kernel_rfl) ⟨_, ⟨congrArg Value.bool (some_inj hm), rfl⟩, hs121⟩
            ·
             obtain ⟨h115p, hm⟩ := iN hm h115
             refine zS 173 h115 ?_
             refine zS 172 h115 ?_
             refine zE 3 (hK114 _ _ ?_)
             refine W.ret ?_
             have hs122 := St.tk0 hs113
             refine ret_of (.bool false) (by kernel_rfl) ⟨_, ⟨congrArg Value.bool (some_inj hm), rfl⟩, hs122⟩
           ·
            refine W.sr fun K123 hK123 => ?_
            refine zE 1 (hK123 _ _ ?_)
            refine W.block ?_
            have hs129 := St.f5 hs111
            have hs130 := St.f5 hs129
            have hs131 := St.f5 hs130
            have hs132 := St.f5 hs131
            have hs133 := St.f5 hs132
            have hs134 := St.f5 hs133
            have hs135 := St.f6 hs134
            refine W.loop_iter (G := Int) (σ := Int) (fun | p124 => p124) (fun | p124, s_, w_ => (∃ us, s_ = slots 176 [(11, (.slice a29 r31.length c30)), (20, (.int .i64 r104)), (21, (.slice a107 ((vflat r31 r81.2).length) c108)), (22, (.int .i64 p124))] us) ∧ St B w [] w_ [kU64.row a29 c30 r31, kU64.row a107 c108 (vflat r31 r81.2), kWr.row a88 c89 r81.2, viewA (ptr b37) r31 r81.2, kWr.row a71 c72 r48.2, blk b66 (.cells [(.int .i64 r59.2.1), (.int .u64 r59.2.2.1), (.int .u64 r59.2.2.2.1), (.string r59.2.2.2.2.1)].toArray 46 (0, 0)), blk b4 (.cells [(.int .i64 re_), (.int .u64 ra_), (.int .u64 rb_), (.string rs_)].toArray 46 (0, 0))]) 0 ⟨slots_intro _ (by kernel_rfl), hs135⟩ hm ?_
            rintro k125 ih126 p124 _ w127 ⟨⟨us, rfl⟩, hs128⟩ hm
            replace hm : slotback_B0 r31 r81 r104 k125 p124 = some true := hm
            unfold slotback_B0 at hm
            refine W.seq fun K136 hK136 => ?_
            refine W.sr fun K137 hK137 => ?_
            refine zR 5 ?_
            rcases Bool.eq_false_or_eq_true (decide (p124 < (r31.length : Int))) with h138 | h138
            ·
             obtain ⟨h138p, hm⟩ := iY hm h138
             refine zS 140 h138 ?_
             refine zS 139 h138 ?_
             refine zE 5 (hK137 _ _ ?_)
             refine W.cond (decide (p124 < (((vflat r31 r81.2).length) : Int))) (by kernel_rfl) (fun h139 => ?_) (fun h139 => ?_)
             ·
              obtain ⟨h139p, hm⟩ := iY hm h139
              refine W.skip ?_
              refine hK136 _ _ ?_
              refine W.seq fun K140 hK140 => ?_
              refine W.block ?_
              refine W.seq fun K141 hK141 => ?_
              have hs142 := hs128.drew
              refine W.regionD [(0, 0), (0, 0), (3, 3), (4, 4), (8, 8), (8, 8), (40, 40), (88, 88), (136, 136), (264, 256), (512, 512), (512, 512), (3584, 3584), (4608, 4608), (512, 512), (512, 512), (49664, 49664), (66048, 66048), (139776, 139776), (262656, 262656)] (fun w_ => St B w [] w_ [kU64.row a29 c30 r31, kU64.row a107 c108 (vflat r31 r81.2), kWr.row a88 c89 r81.2, viewA (ptr b37) r31 r81.2, kWr.row a71 c72 r48.2, blk b66 (.cells [(.int .i64 r59.2.1), (.int .u64 r59.2.2.1), (.int .u64 r59.2.2.2.1), (.string r59.2.2.2.2.1)].toArray 46 (0, 0)), blk b4 (.cells [(.int .i64 re_), (.int .u64 ra_), (.int .u64 rb_), (.string rs_)].toArray 46 (0, 0))]) (by kernel_rfl) hs142 ?_
              refine any_val (v := (.int .i64 p124)) (v' := (.int .i64 p124)) 0 (by kernel_rfl) (fun _ => by kernel_rfl) rfl hs142 ?_
              refine any_val (v := (.int .i64 r104)) (v' := (.int .i64 r104)) 1 (by kernel_rfl) (fun _ => by kernel_rfl) rfl hs142 ?_
              refine any_val (v := (.bool (decide (p124 < r104)))) (v' := (.bool (decide (p124 < r104)))) 2 (by kernel_rfl) (fun _ => by kernel_rfl) rfl hs142 ?_
              refine any_val (v := (.bool (decide (p124 < r104)))) (v' := (.bool (decide (p124 < r104)))) 3 (by kernel_rfl) (fun _ => by kernel_rfl) rfl hs142 ?_
              rcases Bool.eq_false_or_eq_true (decide (p124 < r104)) with h143 | h143
              ·
               obtain ⟨h143p, hm⟩ := iY hm h143
               refine any_set 150 (v := .bool true) (eq_bool_of (by kernel_rfl) h143) ?_
               refine any_set 151 (v := .bool true) (eq_bool_of (by kernel_rfl) h143) ?_
               refine any_skip 4 (by kernel_rfl) (by kernel_rfl) hs142 ?_
               refine any_skip 5 (by kernel_rfl) (by kernel_rfl) hs142 ?_
               refine any_skip 6 (by kernel_rfl) (by kernel_rfl) hs142 ?_
               refine any_skip 7 (by kernel_rfl) (by kernel_rfl) hs142 ?_
               refine any_val (v := (.bool true)) (v' := (.bool true)) 8 (by kernel_rfl) (fun _ => by kernel_rfl) rfl hs142 ?_
               refine any_val (v := (.bool true)) (v' := (.bool true)) 9 (by kernel_rfl) (fun _ => by kernel_rfl) rfl hs142 ?_
               refine any_val (v := (.slice a107 ((vflat r31 r81.2).length) c108)) (v' := (.slice a107 ((vflat r31 r81.2).length) c108)) 10 (by kernel_rfl) (fun _ => by kernel_rfl) rfl hs142 ?_
               refine any_val (v := (.int .i64 p124)) (v' := (.int .i64 p124)) 11 (by kernel_rfl) (fun _ => by kernel_rfl) rfl hs142 ?_
               obtain ⟨h145, hm⟩ := need_some hm
               have hk144 := lt_toNat h145
               refine any_R 12 (by kernel_rfl) (fun _ hS_ => runs_index (a := a107) (n := (vflat r31 r81.2).length) (z := p124) (size := 1) p124.toNat (nat_of h145.1) hk144 (kU64.addr (St.kcells kU64 hs142 1 rfl) hk144) (by kernel_rfl)) hs142 ?_
               refine any_R 13 (by kernel_rfl) (fun _ hS_ => runs_load (ad := ((adr a107 (p124.toNat * 1)).add 0)) (v := (.int .u64 ((vflat r31 r81.2).getD p124.toNat 0))) (by kernel_rfl) (kU64.at (St.kcells kU64 hS_ 1 rfl) hk144 0 0 rfl)) hs142 ?_
               refine any_val (v := (.slice a29 r31.length c30)) (v' := (.slice a29 r31.length c30)) 14 (by kernel_rfl) (fun _ => by kernel_rfl) rfl hs142 ?_
               refine any_val (v := (.int .i64 p124)) (v' := (.int .i64 p124)) 15 (by kernel_rfl) (fun _ => by kernel_rfl) rfl hs142 ?_
               obtain ⟨h147, hm⟩ := need_some hm
               have hk146 := lt_toNat h147
               refine any_R 16 (by kernel_rfl) (fun _ hS_ => runs_index (a := a29) (n := r31.length) (z := p124) (size := 1) p124.toNat (nat_of h147.1) hk146 (kU64.addr (St.kcells kU64 hs142 0 rfl) hk146) (by kernel_rfl)) hs142 ?_
               refine any_R 17 (by kernel_rfl) (fun _ hS_ => runs_load (ad := ((adr a29 (p124.toNat * 1)).add 0)) (v := (.int .u64 (r31.getD p124.toNat 0))) (by kernel_rfl) (kU64.at (St.kcells kU64 hS_ 0 rfl) hk146 0 0 rfl)) hs142 ?_
               refine any_val (v := (.bool (!decide (((vflat r31 r81.2).getD p124.toNat 0) = (r31.getD p124.toNat 0))))) (v' := (.bool (!decide (((vflat r31 r81.2).getD p124.toNat 0) = (r31.getD p124.toNat 0))))) 18 (by kernel_rfl) (fun _ => by kernel_rfl) rfl hs142 ?_
               refine any_val (v := (.bool (!decide (((vflat r31 r81.2).getD p124.toNat 0) = (r31.getD p124.toNat 0))))) (v' := (.bool (!decide (((vflat r31 r81.2).getD p124.toNat 0) = (r31.getD p124.toNat 0))))) 19 (by kernel_rfl) (fun _ => by kernel_rfl) rfl hs142 ?_
               refine any_done (by kernel_rfl) ?_
               refine hK141 _ _ ?_
               refine W.cond (!decide (((vflat r31 r81.2).getD p124.toNat 0) = (r31.getD p124.toNat 0))) (by kernel_rfl) (fun h148 => ?_) (fun h148 => ?_)
               rotate_left
               ·
                have h148p : ((vflat r31 r81.2).getD p124.toNat 0) = (r31.getD p124.toNat 0) := of_decide_eq_true (bnot_false h148)
                replace hm := ite_yes hm h148p
                refine W.skip ?_
                refine normal_block ?_
                refine hK140 _ _ ?_
                refine W.region ?_
                refine zR 1 ?_
                obtain ⟨h149, hm⟩ := need_some hm
                refine zI _ (wrap_i64 h149.1 h149.2) ?_
                refine zE 1 ?_
                refine loopAt_next ?_
                exact ih126 (p124 + 1) _ _ ⟨slots_intro _ (by kernel_rfl), hs142⟩ hm
               ·
                have h148p : ¬ (((vflat r31 r81.2).getD p124.toNat 0) = (r31.getD p124.toNat 0)) := of_decide_eq_false (bnot_true h148)
                replace hm := ite_no hm h148p
                refine W.sr fun K150 hK150 => ?_
                refine zE 1 (hK150 _ _ ?_)
                refine W.ret (ret_block (ret_seq (ret_seq (ret_block (ret_seq ?_)))))
                have hs151 := St.tk0 hs142
                refine ret_of (.bool false) (by kernel_rfl) ⟨_, ⟨congrArg Value.bool (some_inj hm), rfl⟩, hs151⟩
              ·
               obtain ⟨h143p, hm⟩ := iN hm h143
               refine any_set 150 (v := .bool false) (eq_bool_of (by kernel_rfl) h143) ?_
               refine any_set 151 (v := .bool false) (eq_bool_of (by kernel_rfl) h143) ?_
               refine any_val (v := (.int .i64 p124)) (v' := (.int .i64 p124)) 4 (by kernel_rfl) (fun _ => by kernel_rfl) rfl hs142 ?_
               refine any_val (v := (.int .i64 r104)) (v' := (.int .i64 r104)) 5 (by kernel_rfl) (fun _ => by kernel_rfl) rfl hs142 ?_
               obtain ⟨h152, hm⟩ := need_some hm
               refine any_val (v := .int .i64 (IntKind.i64.wrap (r104 + 12))) (v' := .int .i64 (r104 + 12)) 6 (by kernel_rfl) (fun _ => by kernel_rfl) (congrArg (Value.int .i64) (wrap_i64 h152.1 h152.2)) hs142 ?_
               refine any_val (v := (.bool (decide (p124 ≥ (r104 + 12))))) (v' := (.bool (decide (p124 ≥ (r104 + 12))))) 7 (by kernel_rfl) (fun _ => by kernel_rfl) rfl hs142 ?_
               refine any_val (v := (.bool (decide (p124 ≥ (r104 + 12))))) (v' := (.bool (decide (p124 ≥ (r104 + 12))))) 8 (by kernel_rfl) (fun _ => by kernel_rfl) rfl hs142 ?_
               refine any_val (v := (.bool (decide (p124 ≥ (r104 + 12))))) (v' := (.bool (decide (p124 ≥ (r104 + 12))))) 9 (by kernel_rfl) (fun _ => by kernel_rfl) rfl hs142 ?_
               rcases Bool.eq_false_or_eq_true (decide (p124 ≥ (r104 + 12))) with h153 | h153
               ·
                obtain ⟨h153p, hm⟩ := iY hm h153
                refine any_set 155 (v := .bool true) (eq_bool_of (by kernel_rfl) h153) ?_
                refine any_set 156 (v := .bool true) (eq_bool_of (by kernel_rfl) h153) ?_
                refine any_set 157 (v := .bool true) (eq_bool_of (by kernel_rfl) h153) ?_
                refine any_val (v := (.slice a107 ((vflat r31 r81.2).length) c108)) (v' := (.slice a107 ((vflat r31 r81.2).length) c108)) 10 (by kernel_rfl) (fun _ => by kernel_rfl) rfl hs142 ?_
                refine any_val (v := (.int .i64 p124)) (v' := (.int .i64 p124)) 11 (by kernel_rfl) (fun _ => by kernel_rfl) rfl hs142 ?_
                obtain ⟨h155, hm⟩ := need_some hm
                have hk154 := lt_toNat h155
                refine any_R 12 (by kernel_rfl) (fun _ hS_ => runs_index (a := a107) (n := (vflat r31 r81.2).length) (z := p124) (size := 1) p124.toNat (nat_of h155.1) hk154 (kU64.addr (St.kcells kU64 hs142 1 rfl) hk154) (by kernel_rfl)) hs142 ?_
                refine any_R 13 (by kernel_rfl) (fun _ hS_ => runs_load (ad := ((adr a107 (p124.toNat * 1)).add 0)) (v := (.int .u64 ((vflat r31 r81.2).getD p124.toNat 0))) (by kernel_rfl) (kU64.at (St.kcells kU64 hS_ 1 rfl) hk154 0 0 rfl)) hs142 ?_
                refine any_val (v := (.slice a29 r31.length c30)) (v' := (.slice a29 r31.length c30)) 14 (by kernel_rfl) (fun _ => by kernel_rfl) rfl hs142 ?_
                refine any_val (v := (.int .i64 p124)) (v' := (.int .i64 p124)) 15 (by kernel_rfl) (fun _ => by kernel_rfl) rfl hs142 ?_
                obtain ⟨h157, hm⟩ := need_some hm
                have hk156 := lt_toNat h157
                refine any_R 16 (by kernel_rfl) (fun _ hS_ => runs_index (a := a29) (n := r31.length) (z := p124) (size := 1) p124.toNat (nat_of h157.1) hk156 (kU64.addr (St.kcells kU64 hs142 0 rfl) hk156) (by kernel_rfl)) hs142 ?_
                refine any_R 17 (by kernel_rfl) (fun _ hS_ => runs_load (ad := ((adr a29 (p124.toNat * 1)).add 0)) (v := (.int .u64 (r31.getD p124.toNat 0))) (by kernel_rfl) (kU64.at (St.kcells kU64 hS_ 0 rfl) hk156 0 0 rfl)) hs142 ?_
                refine any_val (v := (.bool (!decide (((vflat r31 r81.2).getD p124.toNat 0) = (r31.getD p124.toNat 0))))) (v' := (.bool (!decide (((vflat r31 r81.2).getD p124.toNat 0) = (r31.getD p124.toNat 0))))) 18 (by kernel_rfl) (fun _ => by kernel_rfl) rfl hs142 ?_
                refine any_val (v := (.bool (!decide (((vflat r31 r81.2).getD p124.toNat 0) = (r31.getD p124.toNat 0))))) (v' := (.bool (!decide (((vflat r31 r81.2).getD p124.toNat 0) = (r31.getD p124.toNat 0))))) 19 (by kernel_rfl) (fun _ => by kernel_rfl) rfl hs142 ?_
                refine any_done (by kernel_rfl) ?_
                refine hK141 _ _ ?_
                refine W.cond (!decide (((vflat r31 r81.2).getD p124.toNat 0) = (r31.getD p124.toNat 0))) (by kernel_rfl) (fun h158 => ?_) (fun h158 => ?_)
                rotate_left
                ·
                 have h158p : ((vflat r31 r81.2).getD p124.toNat 0) = (r31.getD p124.toNat 0) := of_decide_eq_true (bnot_false h158)
                 replace hm := ite_yes hm h158p
                 refine W.skip ?_
                 refine normal_block ?_
                 refine hK140 _ _ ?_
                 refine W.region ?_
                 refine zR 1 ?_
                 obtain ⟨h159, hm⟩ := need_some hm
                 refine zI _ (wrap_i64 h159.1 h159.2) ?_
                 refine zE 1 ?_
                 refine loopAt_next ?_
                 exact ih126 (p124 + 1) _ _ ⟨slots_intro _ (by kernel_rfl), hs142⟩ hm
                ·
                 have h158p : ¬ (((vflat r31 r81.2).getD p124.toNat 0) = (r31.getD p124.toNat 0)) := of_decide_eq_false (bnot_true h158)
                 replace hm := ite_no hm h158p
                 refine W.sr fun K160 hK160 => ?_
                 refine zE 1 (hK160 _ _ ?_)
                 refine W.ret (ret_block (ret_seq (ret_seq (ret_block (ret_seq ?_)))))
                 have hs161 := St.tk0 hs142
                 refine ret_of (.bool false) (by kernel_rfl) ⟨_, ⟨congrArg Value.bool (some_inj hm), rfl⟩, hs161⟩
               ·
                obtain ⟨h153p, hm⟩ := iN hm h153
                refine any_set 155 (v := .bool false) (eq_bool_of (by kernel_rfl) h153) ?_
                refine any_set 156 (v := .bool false) (eq_bool_of (by kernel_rfl) h153) ?_
                refine any_set 157 (v := .bool false) (eq_bool_of (by kernel_rfl) h153) ?_
                refine any_skip 10 (by kernel_rfl) (by kernel_rfl) hs142 ?_
                refine any_skip 11 (by kernel_rfl) (by kernel_rfl) hs142 ?_
                refine any_skip 12 (by kernel_rfl) (by kernel_rfl) hs142 ?_
                refine any_skip 13 (by kernel_rfl) (by kernel_rfl) hs142 ?_
                refine any_skip 14 (by kernel_rfl) (by kernel_rfl) hs142 ?_
                refine any_skip 15 (by kernel_rfl) (by kernel_rfl) hs142 ?_
                refine any_skip 16 (by kernel_rfl) (by kernel_rfl) hs142 ?_
                refine any_skip 17 (by kernel_rfl) (by kernel_rfl) hs142 ?_
                refine any_skip 18 (by kernel_rfl) (by kernel_rfl) hs142 ?_
                refine any_val (v := (.bool false)) (v' := (.bool false)) 19 (by kernel_rfl) (fun _ => by kernel_rfl) rfl hs142 ?_
                refine any_done (by kernel_rfl) ?_
                refine hK141 _ _ ?_
                refine W.cond_false false (by kernel_rfl) rfl ?_
                refine W.skip ?_
                refine normal_block ?_
                refine hK140 _ _ ?_
                refine W.region ?_
                refine zR 1 ?_
                obtain ⟨h162, hm⟩ := need_some hm
                refine zI _ (wrap_i64 h162.1 h162.2) ?_
                refine zE 1 ?_
                refine loopAt_next ?_
                exact ih126 (p124 + 1) _ _ ⟨slots_intro _ (by kernel_rfl), hs142⟩ hm
             ·
              obtain ⟨h139p, hm⟩ := iN hm h139
              refine W.exit (exit_seq (exit_seq (exit_here ?_)))
              exact ⟨slots_intro _ (by kernel_rfl), hs128, hm⟩
            ·
             obtain ⟨h138p, hm⟩ := iN hm h138
             refine zS 140 h138 ?_
             refine zS 139 h138 ?_
             refine zE 5 (hK137 _ _ ?_)
             refine W.cond_false false (by kernel_rfl) rfl ?_
             refine W.exit (exit_seq (exit_seq (exit_here ?_)))
             exact ⟨slots_intro _ (by kernel_rfl), hs128, hm⟩
         ·
          have h93p : ¬ ((r81.2.length : Int) = (r48.2.length : Int)) := of_decide_eq_false (bnot_true h93)
          replace hm := ite_no hm h93p
          refine zS 121 h93 ?_
          refine zS 119 h93 ?_
          refine zS 120 h93 ?_
          refine zE 9 (hK77 _ _ ?_)
          refine W.cond_true true (by kernel_rfl) rfl ?_
          refine W.sr fun K163 hK163 => ?_
          refine zE 1 (hK163 _ _ ?_)
          refine W.ret (ret_seq ?_)
          have hs164 := St.tk0 hs92
          refine ret_of (.bool false) (by kernel_rfl) ⟨_, ⟨congrArg Value.bool (some_inj hm), rfl⟩, hs164⟩
        ·
         have h87p : ¬ (r81.1 = 0) := of_decide_eq_false (bnot_true h87)
         replace hm := ite_no hm h87p
         refine zS 114 h87 ?_
         refine zS 112 h87 ?_
         refine zS 113 h87 ?_
         refine zE 16 (hK77 _ _ ?_)
         refine W.cond_true true (by kernel_rfl) rfl ?_
         refine W.sr fun K165 hK165 => ?_
         refine zE 1 (hK165 _ _ ?_)
         refine W.ret (ret_seq ?_)
         have hs166 := St.tk0 hs86
         refine ret_of (.bool false) (by kernel_rfl) ⟨_, ⟨congrArg Value.bool (some_inj hm), rfl⟩, hs166⟩
       ·
        have h80p : ¬ (r59.2.1 = re_ ∧ r59.2.2.1 = ra_ ∧ r59.2.2.2.1 = rb_ ∧ r59.2.2.2.2.1 = rs_) := by simpa using (bnot_true h80)
        replace hm := ite_no hm h80p
        refine zS 105 h80 ?_
        refine zS 103 h80 ?_
        refine zS 104 h80 ?_
        refine zE 25 (hK77 _ _ ?_)
        refine W.cond_true true (by kernel_rfl) rfl ?_
        refine W.sr fun K167 hK167 => ?_
        refine zE 1 (hK167 _ _ ?_)
        refine W.ret (ret_seq ?_)
        have hs168 := St.tk0 hs75
        refine ret_of (.bool false) (by kernel_rfl) ⟨_, ⟨congrArg Value.bool (some_inj hm), rfl⟩, hs168⟩
      ·
       have h79p : ¬ (r59.1 = q_) := of_decide_eq_false (bnot_true h79)
       replace hm := ite_no hm h79p
       refine zS 100 h79 ?_
       refine zS 98 h79 ?_
       refine zS 99 h79 ?_
       refine zE 30 (hK77 _ _ ?_)
       refine W.cond_true true (by kernel_rfl) rfl ?_
       refine W.sr fun K169 hK169 => ?_
       refine zE 1 (hK169 _ _ ?_)
       refine W.ret (ret_seq ?_)
       have hs170 := St.tk0 hs75
       refine ret_of (.bool false) (by kernel_rfl) ⟨_, ⟨congrArg Value.bool (some_inj hm), rfl⟩, hs170⟩
     ·
      have h78p : ¬ (r59.2.2.2.2.2 = 0) := of_decide_eq_false (bnot_true h78)
      replace hm := ite_no hm h78p
      refine zS 95 h78 ?_
      refine zS 94 h78 ?_
      refine zE 35 (hK77 _ _ ?_)
      refine W.cond_true true (by kernel_rfl) rfl ?_
      refine W.sr fun K171 hK171 => ?_
      refine zE 1 (hK171 _ _ ?_)
      refine W.ret (ret_seq ?_)
      have hs172 := St.tk0 hs75
      refine ret_of (.bool false) (by kernel_rfl) ⟨_, ⟨congrArg Value.bool (some_inj hm), rfl⟩, hs172⟩
    ·
     have h57p : ¬ (r48.1 = 0) := of_decide_eq_false (bnot_true h57)
     replace hm := ite_no hm h57p
     refine W.sr fun K173 hK173 => ?_
     obtain ⟨r174, h175, hm⟩ := bind_some hm
     refine zC00 hs54 (works10_walk (hG2 := hG2) (hL := (hs54.oldCells hL)) (hm := h175) B _) fun w176 hs178 => ?_
     refine zE 1 (hK173 _ _ ?_)
     refine W.ret (ret_seq ?_)
     have hs179 := St.tk0 hs178
     refine ret_of (.bool r174) (by kernel_rfl) ⟨_, ⟨congrArg Value.bool (some_inj hm), rfl⟩, hs179⟩
   ·
    refine W.sr fun K180 hK180 => ?_
    refine zR 5 ?_
    rcases Bool.eq_false_or_eq_true (decide (q_ ≥ 1)) with h181 | h181
    ·
     obtain ⟨h181p, hm⟩ := iY hm h181
     refine zS 56 h181 ?_
     refine zS 55 h181 ?_
     refine zR 4 ?_
     rcases Bool.eq_false_or_eq_true (decide (q_ ≤ 1099511627776)) with h182 | h182
     ·
      obtain ⟨h182p, hm⟩ := iY hm h182
      refine zS 60 h182 ?_
      refine zS 58 h182 ?_
      refine zS 59 h182 ?_
      refine ops_R (runs_loadAgg (ad := ⟨b4, 0, none⟩) (cs := [(.int .i64 re_), (.int .u64 ra_), (.int .u64 rb_), (.string rs_)]) (by kernel_rfl) (cells_sub (hs52.heapAt 2 rfl) rfl)) ?_
      obtain ⟨r183, h184, hm⟩ := bind_some hm
      refine zC00 hs52 (smay10_walk (re_ := re_) (ra_ := ra_) (rb_ := rb_) (rs_ := rs_) (hm := h184) B _) fun w185 hs187 => ?_
      refine zR 3 ?_
      rcases Bool.eq_false_or_eq_true (!((decide (r48.1 = 0)) == r183)) with h188 | h188
      rotate_left
      ·
       have h188p : ((r48.1 = 0) ↔ (r183 = true)) := beq_yes decide_eq_true_iff Iff.rfl (bnot_false h188)
       replace hm := ite_yes hm h188p
       refine zS 65 h188 ?_
       refine zS 64 h188 ?_
       refine zR 3 ?_
       rcases Bool.eq_false_or_eq_true (!decide (r48.1 = 0)) with h189 | h189
       rotate_left
       ·
        have h189p : r48.1 = 0 := of_decide_eq_true (bnot_false h189)
        replace hm := ite_yes hm h189p
        refine zS 68 h189 ?_
        refine zS 67 h189 ?_
        refine zE 10 (hK180 _ _ ?_)
        refine W.cond_false false (by kernel_rfl) rfl ?_
        refine W.skip ?_
        have hs190 := St.f1 hs187
        have hs191 := St.f2 hs190
        exact ⟨slots_intro _ (by kernel_rfl), hs191, hm⟩
       ·
        have h189p : ¬ (r48.1 = 0) := of_decide_eq_false (bnot_true h189)
        replace hm := ite_no hm h189p
        refine zS 68 h189 ?_
        refine zS 67 h189 ?_
        refine zR 3 ?_
        rcases Bool.eq_false_or_eq_true (!decide (r48.1 = 1)) with h192 | h192
        rotate_left
        ·
         have h192p : r48.1 = 1 := of_decide_eq_true (bnot_false h192)
         replace hm := ite_yes hm h192p
         refine zS 71 h192 ?_
         refine zS 70 h192 ?_
         refine zR 1 ?_
         refine ops_call0 hs187 (by kernel_rfl) (writes_spec (hv := (hs187.entAt 0 rfl viewA_at)) B _) ?_
         rintro _ _ w195 ⟨a193, c194, rfl, rfl⟩ hs196
         have hs197 := St.ap1 hs196
         refine zE 5 (hK180 _ _ ?_)
         refine W.cond (decide ((r48.2.length : Int) > 0)) (by kernel_rfl) (fun h198 => ?_) (fun h198 => ?_)
         ·
          obtain ⟨h198p, hm⟩ := iY hm h198
          refine W.sr fun K199 hK199 => ?_
          refine zE 1 (hK199 _ _ ?_)
          refine W.ret (ret_seq ?_)
          have hs200 := St.tk0 hs197
          refine ret_of (.bool false) (by kernel_rfl) ⟨_, ⟨congrArg Value.bool (some_inj hm), rfl⟩, hs200⟩
         ·
          obtain ⟨h198p, hm⟩ := iN hm h198
          refine W.skip ?_
          have hs201 := St.f1 hs197
          have hs202 := St.f2 hs201
          have hs203 := St.f3 hs202
          have hs204 := St.tk3 hs203
          exact ⟨slots_intro _ (by kernel_rfl), hs204, hm⟩
        ·
         have h192p : ¬ (r48.1 = 1) := of_decide_eq_false (bnot_true h192)
         replace hm := ite_no hm h192p
         refine zS 71 h192 ?_
         refine zS 70 h192 ?_
         refine zE 7 (hK180 _ _ ?_)
         refine W.cond_true true (by kernel_rfl) rfl ?_
         refine W.sr fun K205 hK205 => ?_
         refine zE 1 (hK205 _ _ ?_)
         refine W.ret (ret_seq ?_)
         have hs206 := St.tk0 hs187
         refine ret_of (.bool false) (by kernel_rfl) ⟨_, ⟨congrArg Value.bool (some_inj hm), rfl⟩, hs206⟩
      ·
       have h188p : ¬ ((r48.1 = 0) ↔ (r183 = true)) := beq_no decide_eq_true_iff Iff.rfl (bnot_true h188)
       replace hm := ite_no hm h188p
       refine zS 65 h188 ?_
       refine zS 64 h188 ?_
       refine zE 13 (hK180 _ _ ?_)
       refine W.cond_true true (by kernel_rfl) rfl ?_
       refine W.sr fun K207 hK207 => ?_
       refine zE 1 (hK207 _ _ ?_)
       refine W.ret (ret_seq ?_)
       have hs208 := St.tk0 hs187
       refine ret_of (.bool false) (by kernel_rfl) ⟨_, ⟨congrArg Value.bool (some_inj hm), rfl⟩, hs208⟩
     ·
      obtain ⟨h182p, hm⟩ := iN hm h182
      refine zS 60 h182 ?_
      refine zS 58 h182 ?_
      refine zS 59 h182 ?_
      refine zR 5 ?_
      rcases Bool.eq_false_or_eq_true (!((decide (r48.1 = 0)) == false)) with h209 | h209
      rotate_left
      ·
       have h209p : ((r48.1 = 0) ↔ False) := beq_yes decide_eq_true_iff ff_iff (bnot_false h209)
       replace hm := ite_yes hm h209p
       refine zS 65 h209 ?_
       refine zS 64 h209 ?_
       refine zR 3 ?_
       rcases Bool.eq_false_or_eq_true (!decide (r48.1 = 0)) with h210 | h210
       rotate_left
       ·
        have h210p : r48.1 = 0 := of_decide_eq_true (bnot_false h210)
        replace hm := ite_yes hm h210p
        refine zS 68 h210 ?_
        refine zS 67 h210 ?_
        refine zE 10 (hK180 _ _ ?_)
        refine W.cond_false false (by kernel_rfl) rfl ?_
        refine W.skip ?_
        have hs211 := St.f1 hs52
        have hs212 := St.f2 hs211
        exact ⟨slots_intro _ (by kernel_rfl), hs212, hm⟩
       ·
        have h210p : ¬ (r48.1 = 0) := of_decide_eq_false (bnot_true h210)
        replace hm := ite_no hm h210p
        refine zS 68 h210 ?_
        refine zS 67 h210 ?_
        refine zR 3 ?_
        rcases Bool.eq_false_or_eq_true (!decide (r48.1 = 1)) with h213 | h213
        rotate_left
        ·
         have h213p : r48.1 = 1 := of_decide_eq_true (bnot_false h213)
         replace hm := ite_yes hm h213p
         refine zS 71 h213 ?_
         refine zS 70 h213 ?_
         refine zR 1 ?_
         refine ops_call0 hs52 (by kernel_rfl) (writes_spec (hv := (hs52.entAt 0 rfl viewA_at)) B _) ?_
         rintro _ _ w216 ⟨a214, c215, rfl, rfl⟩ hs217
         have hs218 := St.ap1 hs217
         refine zE 5 (hK180 _ _ ?_)
         refine W.cond (decide ((r48.2.length : Int) > 0)) (by kernel_rfl) (fun h219 => ?_) (fun h219 => ?_)
         ·
          obtain ⟨h219p, hm⟩ := iY hm h219
          refine W.sr fun K220 hK220 => ?_
          refine zE 1 (hK220 _ _ ?_)
          refine W.ret (ret_seq ?_)
          have hs221 := St.tk0 hs218
          refine ret_of (.bool false) (by kernel_rfl) ⟨_, ⟨congrArg Value.bool (some_inj hm), rfl⟩, hs221⟩
         ·
          obtain ⟨h219p, hm⟩ := iN hm h219
          refine W.skip ?_
          have hs222 := St.f1 hs218
          have hs223 := St.f2 hs222
          have hs224 := St.f3 hs223
          have hs225 := St.tk3 hs224
          exact ⟨slots_intro _ (by kernel_rfl), hs225, hm⟩
        ·
         have h213p : ¬ (r48.1 = 1) := of_decide_eq_false (bnot_true h213)
         replace hm := ite_no hm h213p
         refine zS 71 h213 ?_
         refine zS 70 h213 ?_
         refine zE 7 (hK180 _ _ ?_)
         refine W.cond_true true (by kernel_rfl) rfl ?_
         refine W.sr fun K226 hK226 => ?_
         refine zE 1 (hK226 _ _ ?_)
         refine W.ret (ret_seq ?_)
         have hs227 := St.tk0 hs52
         refine ret_of (.bool false) (by kernel_rfl) ⟨_, ⟨congrArg Value.bool (some_inj hm), rfl⟩, hs227⟩
      ·
       have h209p : ¬ ((r48.1 = 0) ↔ False) := beq_no decide_eq_true_iff ff_iff (bnot_true h209)
       replace hm := ite_no hm h209p
       refine zS 65 h209 ?_
       refine zS 64 h209 ?_
       refine zE 13 (hK180 _ _ ?_)
       refine W.cond_true true (by kernel_rfl) rfl ?_
       refine W.sr fun K228 hK228 => ?_
       refine zE 1 (hK228 _ _ ?_)
       refine W.ret (ret_seq ?_)
       have hs229 := St.tk0 hs52
       refine ret_of (.bool false) (by kernel_rfl) ⟨_, ⟨congrArg Value.bool (some_inj hm), rfl⟩, hs229⟩
    ·
     obtain ⟨h181p, hm⟩ := iN hm h181
     refine zS 56 h181 ?_
     refine zS 55 h181 ?_
     refine zR 9 ?_
     rcases Bool.eq_false_or_eq_true (!((decide (r48.1 = 0)) == false)) with h230 | h230
     rotate_left
     ·
      have h230p : ((r48.1 = 0) ↔ False) := beq_yes decide_eq_true_iff ff_iff (bnot_false h230)
      replace hm := ite_yes hm h230p
      refine zS 65 h230 ?_
      refine zS 64 h230 ?_
      refine zR 3 ?_
      rcases Bool.eq_false_or_eq_true (!decide (r48.1 = 0)) with h231 | h231
      rotate_left
      ·
       have h231p : r48.1 = 0 := of_decide_eq_true (bnot_false h231)
       replace hm := ite_yes hm h231p
       refine zS 68 h231 ?_
       refine zS 67 h231 ?_
       refine zE 10 (hK180 _ _ ?_)
       refine W.cond_false false (by kernel_rfl) rfl ?_
       refine W.skip ?_
       have hs232 := St.f1 hs52
       have hs233 := St.f2 hs232
       exact ⟨slots_intro _ (by kernel_rfl), hs233, hm⟩
      ·
       have h231p : ¬ (r48.1 = 0) := of_decide_eq_false (bnot_true h231)
       replace hm := ite_no hm h231p
       refine zS 68 h231 ?_
       refine zS 67 h231 ?_
       refine zR 3 ?_
       rcases Bool.eq_false_or_eq_true (!decide (r48.1 = 1)) with h234 | h234
       rotate_left
       ·
        have h234p : r48.1 = 1 := of_decide_eq_true (bnot_false h234)
        replace hm := ite_yes hm h234p
        refine zS 71 h234 ?_
        refine zS 70 h234 ?_
        refine zR 1 ?_
        refine ops_call0 hs52 (by kernel_rfl) (writes_spec (hv := (hs52.entAt 0 rfl viewA_at)) B _) ?_
        rintro _ _ w237 ⟨a235, c236, rfl, rfl⟩ hs238
        have hs239 := St.ap1 hs238
        refine zE 5 (hK180 _ _ ?_)
        refine W.cond (decide ((r48.2.length : Int) > 0)) (by kernel_rfl) (fun h240 => ?_) (fun h240 => ?_)
        ·
         obtain ⟨h240p, hm⟩ := iY hm h240
         refine W.sr fun K241 hK241 => ?_
         refine zE 1 (hK241 _ _ ?_)
         refine W.ret (ret_seq ?_)
         have hs242 := St.tk0 hs239
         refine ret_of (.bool false) (by kernel_rfl) ⟨_, ⟨congrArg Value.bool (some_inj hm), rfl⟩, hs242⟩
        ·
         obtain ⟨h240p, hm⟩ := iN hm h240
         refine W.skip ?_
         have hs243 := St.f1 hs239
         have hs244 := St.f2 hs243
         have hs245 := St.f3 hs244
         have hs246 := St.tk3 hs245
         exact ⟨slots_intro _ (by kernel_rfl), hs246, hm⟩
       ·
        have h234p : ¬ (r48.1 = 1) := of_decide_eq_false (bnot_true h234)
        replace hm := ite_no hm h234p
        refine zS 71 h234 ?_
        refine zS 70 h234 ?_
        refine zE 7 (hK180 _ _ ?_)
        refine W.cond_true true (by kernel_rfl) rfl ?_
        refine W.sr fun K247 hK247 => ?_
        refine zE 1 (hK247 _ _ ?_)
        refine W.ret (ret_seq ?_)
        have hs248 := St.tk0 hs52
        refine ret_of (.bool false) (by kernel_rfl) ⟨_, ⟨congrArg Value.bool (some_inj hm), rfl⟩, hs248⟩
     ·
      have h230p : ¬ ((r48.1 = 0) ↔ False) := beq_no decide_eq_true_iff ff_iff (bnot_true h230)
      replace hm := ite_no hm h230p
      refine zS 65 h230 ?_
      refine zS 64 h230 ?_
      refine zE 13 (hK180 _ _ ?_)
      refine W.cond_true true (by kernel_rfl) rfl ?_
      refine W.sr fun K249 hK249 => ?_
      refine zE 1 (hK249 _ _ ?_)
      refine W.ret (ret_seq ?_)
      have hs250 := St.tk0 hs52
      refine ret_of (.bool false) (by kernel_rfl) ⟨_, ⟨congrArg Value.bool (some_inj hm), rfl⟩, hs250⟩

end Go.Proofs.YthimamnblklkbaaDoor

namespace Go.Proofs.YthimamnblklkbaaDoor
open Go Go.RowKit
set_option linter.unusedVariables false
set_option linter.unusedSimpArgs false

theorem slotback_law {ts : List TTn} {i_ k_ q_ re_ ra_ rb_ : Int} {rs_ : ByteArray} (hi : 0 ≤ i_ ∧ i_ ≤ 255) (hk : 0 ≤ k_ ∧ k_ ≤ 255) (hq : 0 ≤ q_ ∧ q_ ≤ 18446744073709551615) (ha : 0 ≤ ra_ ∧ ra_ ≤ 18446744073709551615) (hb : 0 ≤ rb_ ∧ rb_ ≤ 18446744073709551615) (ht : ∀ x ∈ ts, good_Tn x) :
    slotback_M ts i_ k_ q_ re_ ra_ rb_ rs_ = some true := by
  refine Ok.true ?_
  have hs4 := Int.tmod_eq_emod_of_nonneg (b := 4) hi.1
  have hk4 := Int.tmod_eq_emod_of_nonneg (b := 4) hk.1
  have ua : U64 ra_ := by unfold U64; omega
  have ub : U64 rb_ := by unfold U64; omega
  unfold slotback_M
  refine Ok.ite (fun _ => works10_stop) fun h40 => ?_
  refine Ok.ite (fun _ => works10_stop) fun h1000 => ?_
  refine Ok.need (by omega) (Ok.need (by omega) ?_)
  refine Ok.bind (image_least ht (by omega)) fun ws hws => ?_
  obtain ⟨hwl, hwu⟩ := hws
  have hJ := VJ.start hwu (by omega)
  refine Ok.need (by omega) (Ok.need (by omega) (Ok.need (by omega) ?_))
  rw [ssave_eq, smay_eq]
  simp only [Option.bind]
  have h0 : thereF ws (i_.tmod 4) (k_.tmod 4) = 0 := thereF_in (by omega) (by omega) (by omega)
  have hz := thereF_zero h0
  have bad : (q_ < 1 ∨ q_ > 1099511627776 ∨ ¬ mayF re_ rs_ = true) → saveF ws [] (i_.tmod 4) (k_.tmod 4) q_ re_ ra_ rb_ rs_ = (1, []) := fun h => by unfold saveF; rw [if_pos h]
  have stop : Ok (· = true) (slotback_J1 i_ k_ q_ re_ ra_ rb_ rs_ ws (1, [])) := by
    unfold slotback_J1
    exact Ok.no (by decide) works10_stop
  refine Ok.ite (fun h1 => ?_) (fun h1 => ?_)
  rotate_left
  · rw [bad (by omega)]
    exact Ok.yes ⟨fun h => absurd h (by decide), fun h => h.elim⟩ (Ok.no (by decide) (Ok.yes rfl (Ok.no (by simp) stop)))
  refine Ok.ite (fun h2 => ?_) (fun h2 => ?_)
  rotate_left
  · rw [bad (by omega)]
    exact Ok.yes ⟨fun h => absurd h (by decide), fun h => h.elim⟩ (Ok.no (by decide) (Ok.yes rfl (Ok.no (by simp) stop)))
  by_cases hm : mayF re_ rs_ = true
  rotate_left
  · rw [bad (.inr (.inr hm))]
    exact Ok.yes ⟨fun h => absurd h (by decide), fun h => absurd h hm⟩ (Ok.no (by decide) (Ok.yes rfl (Ok.no (by simp) stop)))
  have hmay := mayF_true.1 hm
  obtain ⟨m, em, vm, lm, sm, fm, am⟩ := save_in hJ h0 ⟨h1, h2⟩ hm ua ub (by simp)
  have hload := load_saved h0 h1 hm sm
  rw [em]
  refine Ok.yes ⟨fun _ => hm, fun _ => rfl⟩ (Ok.yes rfl ?_)
  unfold slotback_J1
  refine Ok.yes rfl ?_
  simp only
  rw [sload_eq vm.1, hload]
  simp only [Option.bind]
  refine Ok.yes (by simp) (Ok.yes (by simp) (Ok.yes (by simp) ?_))
  rw [ssave_eq, am]
  simp only [Option.bind]
  have hd := Int.tdiv_eq_ediv_of_nonneg (a := (rs_.size : Int) + 7) (b := 8) (by omega)
  simp only [List.length_nil] at lm
  refine Ok.yes (by simp) (Ok.yes (by simp) (Ok.need (by omega) (Ok.need (by omega) (Ok.need (by omega) (Ok.no (show ¬ (m.length : Int) > 4 + ((rs_.size : Int) + 7).tdiv 8 by omega) ?_)))))
  have hfl := vflat_length ws m
  have stop2 : Ok (· = true) (slotback_J2 ws (0, m)) := by
    unfold slotback_J2
    exact Ok.yes (show ((vflat ws m).length : Int) = (ws.length : Int) by omega) works10_stop
  refine Ok.iter (fun p => 0 ≤ p) (fun p => ((ws.length : Int) - p).toNat) ?_ _ _ (by omega) (fuel_lt (by omega))
  intro k p h5 ih
  unfold slotback_B0
  simp only
  refine Ok.ite (fun hp => ?_) (fun _ => stop2)
  refine Ok.ite (fun hp2 => ?_) (fun _ => stop2)
  have same : ¬ (slotAt (i_.tmod 4) (k_.tmod 4) ≤ p ∧ p < slotAt (i_.tmod 4) (k_.tmod 4) + 12) → (vflat ws m).getD p.toNat 0 = ws.getD p.toNat 0 := by
    intro h
    rw [flat_at vm.2 (by omega), img_at (by omega), fm p h]
  refine Ok.ite (fun h6 => ?_) (fun h6 => ?_)
  · exact Ok.need (by omega) (Ok.need (by omega) (Ok.yes (same (by omega)) (Ok.need (by omega) (ih _ (by omega) (by omega)))))
  · refine Ok.need (by omega) (Ok.ite (fun h7 => ?_) (fun h7 => ?_))
    · exact Ok.need (by omega) (Ok.need (by omega) (Ok.yes (same (by omega)) (Ok.need (by omega) (ih _ (by omega) (by omega)))))
    · exact Ok.need (by omega) (ih _ (by omega) (by omega))
end Go.Proofs.YthimamnblklkbaaDoor
