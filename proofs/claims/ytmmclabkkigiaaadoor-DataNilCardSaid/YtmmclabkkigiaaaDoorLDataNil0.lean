/- Texts, one behind the other: ALdNi, PLdNi. -/
import Derived.Test.YtmmclabkkigiaaaDoorQDN7
set_option linter.unusedVariables false
set_option linter.unusedSimpArgs false
set_option linter.unusedVariables false
set_option maxRecDepth 20000
set_option maxHeartbeats 4000000
namespace Go.Proofs.YtmmclabkkigiaaaDoor
open Go Go.RowKit
set_option linter.unusedSimpArgs false
set_option linter.unusedVariables false

def datanil_M (at_ : Int) (tx_ : ByteArray) : Option (Bool) :=
 (file14_M 9).bind fun r12 =>
need (r12.length ≤ 17592186044415) <|
(dRead_M r12 ([]) 1 (2 + 1 % 20) (2 + 9 % 60) 1 at_ at_).bind fun r32 =>
(dRead_M r12 ([]) 1 (2 + 1 % 20) (2 + 9 % 60) 0 at_ at_).bind fun r38 =>
(dWrite_M r12 ([]) 1 (2 + 1 % 20) (2 + 9 % 60) 1 at_ tx_).bind fun r44 =>
(dWrite_M r12 r44.2 1 (2 + 1 % 20) (2 + 9 % 60) 2 768 (ByteArray.mk #[120])).bind fun r50 =>
(dWrite_M r12 r50.2 1 (2 + 1 % 20) (2 + 9 % 60) 2 9223372036854775808 ByteArray.empty).bind fun r56 =>
if (ByteArray.empty.toList == ByteArray.empty.toList) = true then (if r32.2 = 11 then (if r38.2 = 1 then (if r44.1 = 11 then (if r50.1 = 8 then (if r56.1 = 8 then ((dResize_M r12 r56.2 1 (2 + 1 % 20) (2 + 9 % 60) 2 769).bind fun r77 =>
if r77.1 = 8 then (if (r77.2.length : Int) = 0 then ((works14_M).bind fun r89 =>
some r89) else (some false)) else (some false)) else (some false)) else (some false)) else (some false)) else (some false)) else (some false)) else (some false)

theorem datanil_walk {gw : Int} {gi : Int} {gb : Int} {n_ : Int} {at_ : Int} {tx_ : ByteArray}   (B : Nat) (w : World) (hB : w.heap.size = B) (hT : CellsAt (some ⟨0, 0, none⟩) tab8 w) (hm : datanil_M at_ tx_ = some true) : Spec Tryd.prog 7 #[(.agg #[(.int .i64 gw), (.int .i64 gi), (.int .i64 gb)]), (.int .i64 n_), (.int .u64 at_), (.string tx_)] B w [] (fun v H' => v = .bool true ∧ H' = []) := by
 refine spec_Q Tryd.func7 rfl fun hs => ?_
 unfold datanil_M at hm
 have hG : 0 < B := by rw [← hB]; exact lt_of_cells hT (v := .int .u8 0) (by kernel_rfl)
 refine W.sr fun K1 hK1 => ?_
 refine zN [(.int .i64 gw), (.int .i64 gi), (.int .i64 gb)] 23 hs fun b4 w2 hs3 => ?_
 refine zE 1 (hK1 _ _ ?_)
 refine W.sr fun K5 hK5 => ?_
 refine ops_R (runs_loadAgg (ad := ⟨b4, 0, none⟩) (cs := [(.int .i64 gw), (.int .i64 gi), (.int .i64 gb)]) (by kernel_rfl) (cells_sub (hs3.heapAt 0 rfl) rfl)) ?_
 refine zR 3 ?_
 refine zC00 hs3 (dRead_nil (gw := gw) (gi := gi) (gb := gb) (n_ := n_) (at_ := at_) (x_ := at_) B _) fun w6 hs8 => ?_
 refine zE 5 (hK5 _ _ ?_)
 refine W.sr fun K9 hK9 => ?_
 obtain ⟨r12, h13, hm⟩ := bind_some hm
 refine ops_call0 hs8 (by kernel_rfl) (file14_walk (b_ := 9) (hm := h13) B _) ?_
 rintro _ _ w14 ⟨a10, c11, rfl, rfl⟩ hs15
 have hs16 := St.ap1 hs15
 refine zR 3 ?_
 refine zN [(.int .i64 0), (.int .i64 0), (.int .i64 0)] 23 hs16 fun b19 w17 hs18 => ?_
 refine ops_store (off := 0) (cs := [(.int .i64 0), (.int .i64 0), (.int .i64 0)]) (vs := [(.int .i64 1), (.int .i64 (2 + 1 % 20)), (.int .i64 (2 + 9 % 60))]) hs18 (by kernel_rfl) (by simp) rfl (fun w20 hs21 => ?_)
 have hs22 : St B w [] w20 [blk b19 (.cells [(.int .i64 1), (.int .i64 (2 + 1 % 20)), (.int .i64 (2 + 9 % 60))].toArray 23 (0, 0)), kU64.row a10 c11 r12, blk b4 (.cells [(.int .i64 gw), (.int .i64 gi), (.int .i64 gb)].toArray 23 (0, 0))] := hs21
 refine zE 1 (hK9 _ _ ?_)
 refine W.sr fun K23 hK23 => ?_
 refine zR 1 ?_
 obtain ⟨h25, hm⟩ := need_some hm
 refine ops_call0 hs22 (by kernel_rfl) (new_spec (hc := (St.kcells kU64 hs22 1 rfl)) (hn := (St.capnil kU64 hs22 1 rfl)) (hsz := h25) B _) ?_
 rintro _ _ w26 ⟨b24, rfl, rfl⟩ hs27
 have hs28 := St.ap1 hs27
 refine zE 1 (hK23 _ _ ?_)
 refine W.seq fun K29 hK29 => ?_
 refine W.sr fun K30 hK30 => ?_
 refine zE 2 (hK30 _ _ ?_)
 refine W.cond_false false (by kernel_rfl) rfl ?_
 refine W.skip ?_
 refine hK29 _ _ ?_
 refine W.sr fun K31 hK31 => ?_
 refine zR 1 ?_
 refine ops_R (runs_loadAgg (ad := ⟨b19, 0, none⟩) (cs := [(.int .i64 1), (.int .i64 (2 + 1 % 20)), (.int .i64 (2 + 9 % 60))]) (by kernel_rfl) (cells_sub (hs28.heapAt 1 rfl) rfl)) ?_
 refine zR 2 ?_
 obtain ⟨r32, h33, hm⟩ := bind_some hm
 refine zC11 hs28 (dRead_walk (vb := b24) (img := r12) (l := []) (gw := 1) (gi := (2 + 1 % 20)) (gb := (2 + 9 % 60)) (n_ := 1) (at_ := at_) (sz_ := at_) (hm := h33) B _) fun w34 hs36 => ?_
 refine zE 5 (hK31 _ _ ?_)
 refine W.sr fun K37 hK37 => ?_
 refine zR 1 ?_
 refine ops_R (runs_loadAgg (ad := ⟨b19, 0, none⟩) (cs := [(.int .i64 1), (.int .i64 (2 + 1 % 20)), (.int .i64 (2 + 9 % 60))]) (by kernel_rfl) (cells_sub (hs36.heapAt 1 rfl) rfl)) ?_
 refine zR 2 ?_
 obtain ⟨r38, h39, hm⟩ := bind_some hm
 refine zC11 hs36 (dRead_walk (vb := b24) (img := r12) (l := []) (gw := 1) (gi := (2 + 1 % 20)) (gb := (2 + 9 % 60)) (n_ := 0) (at_ := at_) (sz_ := at_) (hm := h39) B _) fun w40 hs42 => ?_
 refine zE 5 (hK37 _ _ ?_)
 refine W.sr fun K43 hK43 => ?_
 refine zR 1 ?_
 refine ops_R (runs_loadAgg (ad := ⟨b19, 0, none⟩) (cs := [(.int .i64 1), (.int .i64 (2 + 1 % 20)), (.int .i64 (2 + 9 % 60))]) (by kernel_rfl) (cells_sub (hs42.heapAt 1 rfl) rfl)) ?_
 refine zR 2 ?_
 obtain ⟨r44, h45, hm⟩ := bind_some hm
 refine zC11 hs42 (dWrite_walk (vb := b24) (hG := hG) (hT := (hs42.oldCells hT)) (img := r12) (l := []) (gw := 1) (gi := (2 + 1 % 20)) (gb := (2 + 9 % 60)) (n_ := 1) (at_ := at_) (tx_ := tx_) (hm := h45) B _) fun w46 hs48 => ?_
 refine zE 1 (hK43 _ _ ?_)
 refine W.sr fun K49 hK49 => ?_
 refine zR 1 ?_
 refine ops_R (runs_loadAgg (ad := ⟨b19, 0, none⟩) (cs := [(.int .i64 1), (.int .i64 (2 + 1 % 20)), (.int .i64 (2 + 9 % 60))]) (by kernel_rfl) (cells_sub (hs48.heapAt 1 rfl) rfl)) ?_
 obtain ⟨r50, h51, hm⟩ := bind_some hm
 refine zC11 hs48 (dWrite_walk (vb := b24) (hG := hG) (hT := (hs48.oldCells hT)) (img := r12) (l := r44.2) (gw := 1) (gi := (2 + 1 % 20)) (gb := (2 + 9 % 60)) (n_ := 2) (at_ := 768) (tx_ := (ByteArray.mk #[120])) (hm := h51) B _) fun w52 hs54 => ?_
 refine zE 1 (hK49 _ _ ?_)
 refine W.sr fun K55 hK55 => ?_
 refine zR 1 ?_
 refine ops_R (runs_loadAgg (ad := ⟨b19, 0, none⟩) (cs := [(.int .i64 1), (.int .i64 (2 + 1 % 20)), (.int .i64 (2 + 9 % 60))]) (by kernel_rfl) (cells_sub (hs54.heapAt 1 rfl) rfl)) ?_
 obtain ⟨r56, h57, hm⟩ := bind_some hm
 refine zC11 hs54 (dWrite_walk (vb := b24) (hG := hG) (hT := (hs54.oldCells hT)) (img := r12) (l := r50.2) (gw := 1) (gi := (2 + 1 % 20)) (gb := (2 + 9 % 60)) (n_ := 2) (at_ := 9223372036854775808) (tx_ := ByteArray.empty) (hm := h57) B _) fun w58 hs60 => ?_
 refine zE 1 (hK55 _ _ ?_)
 refine W.sr fun K61 hK61 => ?_
 refine zR 3 ?_
 rcases Bool.eq_false_or_eq_true (ByteArray.empty.toList == ByteArray.empty.toList) with h62 | h62
 ·
  have h62p : (ByteArray.empty.toList == ByteArray.empty.toList) = true := h62
  replace hm := ite_yes hm h62p
  refine zS 66 h62 ?_
  refine zS 65 h62 ?_
  refine zR 4 ?_
  refine ops_R (runs_loadAgg (ad := ⟨b4, 0, none⟩) (cs := [(.int .i64 gw), (.int .i64 gi), (.int .i64 gb)]) (by kernel_rfl) (cells_sub (hs60.heapAt 3 rfl) rfl)) ?_
  refine zR 2 ?_
  refine zC00 hs60 (dNeed_nil (gw := gw) (gi := gi) (gb := gb) (n_ := n_) (at_ := at_) (x_ := 3) B _) fun w63 hs65 => ?_
  refine zR 3 ?_
  refine ops_R (runs_loadAgg (ad := ⟨b4, 0, none⟩) (cs := [(.int .i64 gw), (.int .i64 gi), (.int .i64 gb)]) (by kernel_rfl) (cells_sub (hs65.heapAt 3 rfl) rfl)) ?_
  refine zR 3 ?_
  refine zC00 hs65 (dWrite_nil (gw := gw) (gi := gi) (gb := gb) (n_ := n_) (at_ := at_) (tx_ := tx_) B _) fun w66 hs68 => ?_
  refine zR 3 ?_
  refine ops_R (runs_loadAgg (ad := ⟨b4, 0, none⟩) (cs := [(.int .i64 gw), (.int .i64 gi), (.int .i64 gb)]) (by kernel_rfl) (cells_sub (hs68.heapAt 3 rfl) rfl)) ?_
  refine zR 2 ?_
  refine zC00 hs68 (dResize_nil (gw := gw) (gi := gi) (gb := gb) (n_ := n_) (at_ := at_) B _) fun w69 hs71 => ?_
  refine zR 7 ?_
  rcases Bool.eq_false_or_eq_true (decide (r32.2 = 11)) with h72 | h72
  ·
   obtain ⟨h72p, hm⟩ := iY hm h72
   refine zS 96 h72 ?_
   refine zS 94 h72 ?_
   refine zS 95 h72 ?_
   refine zR 4 ?_
   rcases Bool.eq_false_or_eq_true (decide (r38.2 = 1)) with h73 | h73
   ·
    obtain ⟨h73p, hm⟩ := iY hm h73
    refine zS 100 h73 ?_
    refine zS 98 h73 ?_
    refine zS 99 h73 ?_
    refine zR 4 ?_
    rcases Bool.eq_false_or_eq_true (decide (r44.1 = 11)) with h74 | h74
    ·
     obtain ⟨h74p, hm⟩ := iY hm h74
     refine zS 104 h74 ?_
     refine zS 102 h74 ?_
     refine zS 103 h74 ?_
     refine zR 4 ?_
     rcases Bool.eq_false_or_eq_true (decide (r50.1 = 8)) with h75 | h75
     ·
      obtain ⟨h75p, hm⟩ := iY hm h75
      refine zS 108 h75 ?_
      refine zS 106 h75 ?_
      refine zS 107 h75 ?_
      refine zR 4 ?_
      rcases Bool.eq_false_or_eq_true (decide (r56.1 = 8)) with h76 | h76
      ·
       obtain ⟨h76p, hm⟩ := iY hm h76
       refine zS 112 h76 ?_
       refine zS 110 h76 ?_
       refine zS 111 h76 ?_
       refine zR 1 ?_
       refine ops_R (runs_loadAgg (ad := ⟨b19, 0, none⟩) (cs := [(.int .i64 1), (.int .i64 (2 + 1 % 20)), (.int .i64 (2 + 9 % 60))]) (by kernel_rfl) (cells_sub (hs71.heapAt 1 rfl) rfl)) ?_
       obtain ⟨r77, h78, hm⟩ := bind_some hm
       refine zC11 hs71 (dResize_walk (vb := b24) (img := r12) (l := r56.2) (gw := 1) (gi := (2 + 1 % 20)) (gb := (2 + 9 % 60)) (n_ := 2) (sz_ := 769) (hm := h78) B _) fun w79 hs81 => ?_
       refine zR 3 ?_
       rcases Bool.eq_false_or_eq_true (decide (r77.1 = 8)) with h82 | h82
       ·
        obtain ⟨h82p, hm⟩ := iY hm h82
        refine zS 118 h82 ?_
        refine zS 116 h82 ?_
        refine zS 117 h82 ?_
        refine zR 1 ?_
        refine ops_call0 hs81 (by kernel_rfl) (writes_spec (hv := (hs81.entAt 0 rfl viewA_at)) B _) ?_
        rintro _ _ w85 ⟨a83, c84, rfl, rfl⟩ hs86
        have hs87 := St.ap1 hs86
        refine zR 4 ?_
        rcases Bool.eq_false_or_eq_true (decide ((r77.2.length : Int) = 0)) with h88 | h88
        ·
         obtain ⟨h88p, hm⟩ := iY hm h88
         refine zS 124 h88 ?_
         refine zS 122 h88 ?_
         refine zS 123 h88 ?_
         obtain ⟨r89, h90, hm⟩ := bind_some hm
         refine zC00 hs87 (works14_walk (hG := hG) (hT := (hs87.oldCells hT)) (hm := h90) B _) fun w91 hs93 => ?_
         refine zE 2 (hK61 _ _ ?_)
         refine W.ret ?_
         have hs94 := St.tk0 hs93
         refine ret_of (.bool r89) (by kernel_rfl) ⟨_, ⟨congrArg Value.bool (some_inj hm), rfl⟩, hs94⟩
        ·
         obtain ⟨h88p, hm⟩ := iN hm h88
         refine zS 124 h88 ?_
         refine zS 122 h88 ?_
         refine zS 123 h88 ?_
         refine zE 3 (hK61 _ _ ?_)
         refine W.ret ?_
         have hs95 := St.tk0 hs87
         refine ret_of (.bool false) (by kernel_rfl) ⟨_, ⟨congrArg Value.bool (some_inj hm), rfl⟩, hs95⟩
       ·
        obtain ⟨h82p, hm⟩ := iN hm h82
        refine zS 118 h82 ?_
        refine zS 116 h82 ?_
        refine zS 117 h82 ?_
        refine zE 9 (hK61 _ _ ?_)
        refine W.ret ?_
        have hs96 := St.tk0 hs81
        refine ret_of (.bool false) (by kernel_rfl) ⟨_, ⟨congrArg Value.bool (some_inj hm), rfl⟩, hs96⟩
      ·
       obtain ⟨h76p, hm⟩ := iN hm h76
       refine zS 112 h76 ?_
       refine zS 110 h76 ?_
       refine zS 111 h76 ?_
       refine zE 15 (hK61 _ _ ?_)
       refine W.ret ?_
       have hs97 := St.tk0 hs71
       refine ret_of (.bool false) (by kernel_rfl) ⟨_, ⟨congrArg Value.bool (some_inj hm), rfl⟩, hs97⟩
     ·
      obtain ⟨h75p, hm⟩ := iN hm h75
      refine zS 108 h75 ?_
      refine zS 106 h75 ?_
      refine zS 107 h75 ?_
      refine zE 19 (hK61 _ _ ?_)
      refine W.ret ?_
      have hs98 := St.tk0 hs71
      refine ret_of (.bool false) (by kernel_rfl) ⟨_, ⟨congrArg Value.bool (some_inj hm), rfl⟩, hs98⟩
    ·
     obtain ⟨h74p, hm⟩ := iN hm h74
     refine zS 104 h74 ?_
     refine zS 102 h74 ?_
     refine zS 103 h74 ?_
     refine zE 23 (hK61 _ _ ?_)
     refine W.ret ?_
     have hs99 := St.tk0 hs71
     refine ret_of (.bool false) (by kernel_rfl) ⟨_, ⟨congrArg Value.bool (some_inj hm), rfl⟩, hs99⟩
   ·
    obtain ⟨h73p, hm⟩ := iN hm h73
    refine zS 100 h73 ?_
    refine zS 98 h73 ?_
    refine zS 99 h73 ?_
    refine zE 27 (hK61 _ _ ?_)
    refine W.ret ?_
    have hs100 := St.tk0 hs71
    refine ret_of (.bool false) (by kernel_rfl) ⟨_, ⟨congrArg Value.bool (some_inj hm), rfl⟩, hs100⟩
  ·
   obtain ⟨h72p, hm⟩ := iN hm h72
   refine zS 96 h72 ?_
   refine zS 94 h72 ?_
   refine zS 95 h72 ?_
   refine zE 31 (hK61 _ _ ?_)
   refine W.ret ?_
   have hs101 := St.tk0 hs71
   refine ret_of (.bool false) (by kernel_rfl) ⟨_, ⟨congrArg Value.bool (some_inj hm), rfl⟩, hs101⟩
 ·
  have h62p : ¬ ((ByteArray.empty.toList == ByteArray.empty.toList) = true) := ne_true_of_eq_false h62
  replace hm := ite_no hm h62p
  refine zS 66 h62 ?_
  refine zS 65 h62 ?_
  refine zE 61 (hK61 _ _ ?_)
  refine W.ret ?_
  have hs102 := St.tk0 hs60
  refine ret_of (.bool false) (by kernel_rfl) ⟨_, ⟨congrArg Value.bool (some_inj hm), rfl⟩, hs102⟩

end Go.Proofs.YtmmclabkkigiaaaDoor

namespace Go.Proofs.YtmmclabkkigiaaaDoor
open Go Go.RowKit
set_option linter.unusedVariables false
set_option linter.unusedSimpArgs false

theorem file_one : igetM (fileW 11) [] 1 3 11 1 = (⟨2, 1, 0, 0, 0, 0, 0, 0, 0, 0⟩, 0) := by kernel_rfl
theorem file_none : igetM (fileW 11) [] 1 3 11 0 = (Nd.zero, 1) := by kernel_rfl
theorem datanil_law {at_ : Int} {tx_ : ByteArray} (ha : U64 at_) : datanil_M at_ tx_ = some true := by
  refine Ok.true ?_
  have h := Fi.start (gb := 11) (by omega)
  have hl := h.mp.dk.len
  unfold datanil_M
  refine Ok.got (file14_eq (b := 9) (gb := 11) (by omega) (by omega)) (Ok.need (by omega) ?_)
  rw [show (2 : Int) + 1 % 20 = 3 by omega, show (2 : Int) + 9 % 60 = 11 by omega]
  have e1 : dRead_M (fileW 11) [] 1 3 11 1 at_ at_ = some (ByteArray.empty, 11) := by
    unfold dRead_M
    rw [file_one, if_pos rfl, if_pos rfl]
  have e2 : dRead_M (fileW 11) [] 1 3 11 0 at_ at_ = some (ByteArray.empty, 1) := by
    unfold dRead_M
    rw [file_none, if_neg (by decide)]
    refine bind_of rfl ?_
    rw [if_neg (by decide)]
  have e3 : dWrite_M (fileW 11) [] 1 3 11 1 at_ tx_ = some (11, []) := by
    unfold dWrite_M
    rw [file_one, if_pos rfl, if_pos rfl]
  have e4 : dWrite_M (fileW 11) [] 1 3 11 2 768 (ByteArray.mk #[120]) = some (8, []) := by
    have hs : (ByteArray.mk #[120]).size = 1 := rfl
    rcases h.write (at_ := 768) (by unfold U64; omega) (tx := ByteArray.mk #[120]) (by omega) with ⟨_, e⟩ | ⟨q, _⟩ | ⟨q, _⟩ | ⟨q, _⟩
    · exact e
    all_goals omega
  have e5 : dWrite_M (fileW 11) [] 1 3 11 2 9223372036854775808 ByteArray.empty = some (8, []) := by
    rcases h.write (at_ := 9223372036854775808) (by unfold U64; omega) (tx := ByteArray.empty) (by simp) with ⟨_, e⟩ | ⟨q, _⟩ | ⟨q, _⟩ | ⟨q, _⟩
    · exact e
    all_goals omega
  have e6 : dResize_M (fileW 11) [] 1 3 11 2 769 = some (8, []) := by
    rcases h.resize (s := 769) (by unfold U64; omega) with ⟨_, e⟩ | ⟨q, _⟩
    · exact e
    · omega
  refine Ok.got e1 (Ok.got e2 (Ok.got e3 (Ok.got e4 (Ok.got e5 ?_))))
  refine Ok.yes (by simp) (Ok.yes rfl (Ok.yes rfl (Ok.yes rfl (Ok.yes rfl (Ok.yes rfl (Ok.got e6 (Ok.yes rfl (Ok.yes rfl works14_stop))))))))
end Go.Proofs.YtmmclabkkigiaaaDoor
