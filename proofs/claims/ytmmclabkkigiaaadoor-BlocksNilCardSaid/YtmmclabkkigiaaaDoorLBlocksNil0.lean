/- Texts, one behind the other: ALbNi, PLbNi. -/
import Derived.Test.YtmmclabkkigiaaaDoorQBN5
set_option linter.unusedVariables false
set_option linter.unusedSimpArgs false
set_option linter.unusedVariables false
set_option maxRecDepth 20000
set_option maxHeartbeats 4000000
namespace Go.Proofs.YtmmclabkkigiaaaDoor
open Go Go.RowKit
set_option linter.unusedSimpArgs false
set_option linter.unusedVariables false

def blocksnil_M  : Option (Bool) :=
 need ((0 : Int) ≤ 0 ∧ (0 : Int) ≤ 255) <|
need ((0 : Int) ≤ 0 ∧ (0 : Int) ≤ 255) <|
need ((fmtW 1 (2 + 0 % 20) (2 + 0 % 60)).length ≤ 17592186044415) <|
need ((0 : Int) ≤ 0 ∧ (0 : Int) ≤ 255) <|
need ((0 : Int) ≤ 0 ∧ (0 : Int) ≤ 255) <|
if (igetM (fmtW 1 (2 + 0 % 20) (2 + 0 % 60)) ([]) 1 (2 + 0 % 20) (2 + 0 % 60) 1).2 = 0 then ((bat_M (fmtW 1 (2 + 0 % 20) (2 + 0 % 60)) ([]) 1 (2 + 0 % 20) (2 + 0 % 60) 1 12).bind fun r48 =>
(bTake_M (fmtW 1 (2 + 0 % 20) (2 + 0 % 60)) ([]) 1 (2 + 0 % 20) (2 + 0 % 60) 1 (-1)).bind fun r54 =>
if r48.2 = 1 then (if r54.2.1 = 1 then ((bDrop_M (fmtW 1 (2 + 0 % 20) (2 + 0 % 60)) r54.2.2 1 (2 + 0 % 20) (2 + 0 % 60) 1 12).bind fun r76 =>
if r76.1 = 1 then ((bCut_M (fmtW 1 (2 + 0 % 20) (2 + 0 % 60)) r76.2 1 (2 + 0 % 20) (2 + 0 % 60) 1 12).bind fun r84 =>
if r84.1 = 0 then ((bCut_M (fmtW 1 (2 + 0 % 20) (2 + 0 % 60)) r84.2 1 (2 + 0 % 20) (2 + 0 % 60) 1 13).bind fun r92 =>
if r92.1 = 1 then ((works13_M).bind fun r100 =>
some r100) else (some false)) else (some false)) else (some false)) else (some false)) else (some false)) else ((some ((igetM (fmtW 1 (2 + 0 % 20) (2 + 0 % 60)) ([]) 1 (2 + 0 % 20) (2 + 0 % 60) 1).2)).bind fun r114 =>
some false)

theorem blocksnil_walk {gw : Int} {gi : Int} {gb : Int} {n_ : Int} {k_ : Int}   (B : Nat) (w : World) (hB : w.heap.size = B) (hT : CellsAt (some ⟨0, 0, none⟩) tab8 w) (hm : blocksnil_M = some true) : Spec Tryd.prog 3 #[(.agg #[(.int .i64 gw), (.int .i64 gi), (.int .i64 gb)]), (.int .i64 n_), (.int .i64 k_)] B w [] (fun v H' => v = .bool true ∧ H' = []) := by
 refine spec_Q Tryd.func3 rfl fun hs => ?_
 unfold blocksnil_M at hm
 have hG : 0 < B := by rw [← hB]; exact lt_of_cells hT (v := .int .u8 0) (by kernel_rfl)
 refine W.sr fun K1 hK1 => ?_
 refine zN [(.int .i64 gw), (.int .i64 gi), (.int .i64 gb)] 23 hs fun b4 w2 hs3 => ?_
 refine zE 1 (hK1 _ _ ?_)
 refine W.sr fun K5 hK5 => ?_
 refine zE 1 (hK5 _ _ ?_)
 refine W.sr fun K6 hK6 => ?_
 refine ops_R (runs_loadAgg (ad := ⟨b4, 0, none⟩) (cs := [(.int .i64 gw), (.int .i64 gi), (.int .i64 gb)]) (by kernel_rfl) (cells_sub (hs3.heapAt 0 rfl) rfl)) ?_
 refine zR 1 ?_
 refine zC00 hs3 (bof_nil (gw := gw) (gi := gi) (gb := gb) (n_ := n_) B _) fun w7 hs9 => ?_
 refine zE 5 (hK6 _ _ ?_)
 refine W.sr fun K10 hK10 => ?_
 refine zR 2 ?_
 refine zC00 hs9 (bat_nil (k_ := k_) B _) fun w11 hs13 => ?_
 refine zE 5 (hK10 _ _ ?_)
 refine W.sr fun K14 hK14 => ?_
 refine zR 2 ?_
 refine zC00 hs13 (bTake_nil (k_ := k_) B _) fun w15 hs17 => ?_
 refine zE 5 (hK14 _ _ ?_)
 refine W.sr fun K18 hK18 => ?_
 obtain ⟨h19, hm⟩ := need_some hm
 obtain ⟨h20, hm⟩ := need_some hm
 refine zC00 hs17 (small_spec (x_ := 0) (y_ := 0) (hx := h19) (hy := h20) B _) fun w21 hs23 => ?_
 refine ops_call0 hs23 (by kernel_rfl) (format_spec (gw := 1) (gi := (2 + 0 % 20)) (gb := (2 + 0 % 60)) B _) ?_
 rintro _ _ w26 ⟨a24, c25, rfl, rfl⟩ hs27
 have hs28 := St.ap1 hs27
 obtain ⟨h30, hm⟩ := need_some hm
 refine ops_call0 hs28 (by kernel_rfl) (new_spec (hc := (St.kcells kU64 hs28 0 rfl)) (hn := (St.capnil kU64 hs28 0 rfl)) (hsz := h30) B _) ?_
 rintro _ _ w31 ⟨b29, rfl, rfl⟩ hs32
 have hs33 := St.ap1 hs32
 refine zE 1 (hK18 _ _ ?_)
 refine W.sr fun K34 hK34 => ?_
 refine zR 1 ?_
 obtain ⟨h35, hm⟩ := need_some hm
 obtain ⟨h36, hm⟩ := need_some hm
 refine zC00 hs33 (small_spec (x_ := 0) (y_ := 0) (hx := h35) (hy := h36) B _) fun w37 hs39 => ?_
 rcases Bool.eq_false_or_eq_true (decide ((igetM (fmtW 1 (2 + 0 % 20) (2 + 0 % 60)) ([]) 1 (2 + 0 % 20) (2 + 0 % 60) 1).2 = 0)) with h40 | h40
 ·
  obtain ⟨h40p, hm⟩ := iY hm h40
  refine ops_call0 hs39 (by kernel_rfl) (bof_ok (gw := 1) (gi := (2 + 0 % 20)) (gb := (2 + 0 % 60)) (n_ := 1) (hv := (hs39.entAt 0 rfl viewA_at)) (hP := h40p) B _) ?_
  rintro _ _ w42 ⟨b41, rfl, rfl⟩ hs43
  have hs44 := St.ap1 hs43
  refine zE 5 (hK34 _ _ ?_)
  refine W.seq fun K45 hK45 => ?_
  refine W.sr fun K46 hK46 => ?_
  refine zE 6 (hK46 _ _ ?_)
  refine W.cond_false false (by kernel_rfl) rfl ?_
  refine W.skip ?_
  refine hK45 _ _ ?_
  refine W.sr fun K47 hK47 => ?_
  refine zR 1 ?_
  obtain ⟨r48, h49, hm⟩ := bind_some hm
  refine zC00 hs44 (bat_walk (k_ := 12) (img := (fmtW 1 (2 + 0 % 20) (2 + 0 % 60))) (l := []) (gw := 1) (gi := (2 + 0 % 20)) (gb := (2 + 0 % 60)) (n_ := 1) (hmb := (hs44.heapAt 0 rfl)) (hv := (hs44.entAt 1 rfl viewA_at)) (hm := h49) B _) fun w50 hs52 => ?_
  refine zE 5 (hK47 _ _ ?_)
  refine W.sr fun K53 hK53 => ?_
  refine zR 1 ?_
  obtain ⟨r54, h55, hm⟩ := bind_some hm
  have hs56 := St.f1 hs52
  have hs57 := St.f1 hs56
  refine zC22 hs57 (bTake_walk (mb := b41) (vb := b29) (k_ := (-1)) (img := (fmtW 1 (2 + 0 % 20) (2 + 0 % 60))) (l := []) (gw := 1) (gi := (2 + 0 % 20)) (gb := (2 + 0 % 60)) (n_ := 1) (hG := hG) (hT := (hs52.oldCells hT)) (hm := h55) B _) fun w58 hs60 => ?_
  refine zE 5 (hK53 _ _ ?_)
  refine W.sr fun K61 hK61 => ?_
  refine zR 25 ?_
  refine zC00 hs60 (bneed_nil (k_ := k_) B _) fun w62 hs64 => ?_
  refine zR 5 ?_
  refine zC00 hs64 (bDrop_nil (k_ := k_) B _) fun w65 hs67 => ?_
  refine zR 5 ?_
  refine zC00 hs67 (bCut_nil (f_ := k_) B _) fun w68 hs70 => ?_
  refine zR 4 ?_
  refine zC00 hs70 (bList_nil B _) fun w71 hs73 => ?_
  refine zR 8 ?_
  rcases Bool.eq_false_or_eq_true (decide (r48.2 = 1)) with h74 | h74
  ·
   obtain ⟨h74p, hm⟩ := iY hm h74
   refine zS 114 h74 ?_
   refine zS 112 h74 ?_
   refine zS 113 h74 ?_
   refine zR 4 ?_
   rcases Bool.eq_false_or_eq_true (decide (r54.2.1 = 1)) with h75 | h75
   ·
    obtain ⟨h75p, hm⟩ := iY hm h75
    refine zS 118 h75 ?_
    refine zS 116 h75 ?_
    refine zS 117 h75 ?_
    refine zR 1 ?_
    obtain ⟨r76, h77, hm⟩ := bind_some hm
    have hs78 := St.f1 hs73
    have hs79 := St.f1 hs78
    refine zC22 hs79 (bDrop_walk (mb := b41) (vb := b29) (k_ := 12) (img := (fmtW 1 (2 + 0 % 20) (2 + 0 % 60))) (l := r54.2.2) (gw := 1) (gi := (2 + 0 % 20)) (gb := (2 + 0 % 60)) (n_ := 1) (hm := h77) B _) fun w80 hs82 => ?_
    refine zR 3 ?_
    rcases Bool.eq_false_or_eq_true (decide (r76.1 = 1)) with h83 | h83
    ·
     obtain ⟨h83p, hm⟩ := iY hm h83
     refine zS 123 h83 ?_
     refine zS 121 h83 ?_
     refine zS 122 h83 ?_
     refine zR 1 ?_
     obtain ⟨r84, h85, hm⟩ := bind_some hm
     have hs86 := St.f1 hs82
     have hs87 := St.f1 hs86
     refine zC22 hs87 (bCut_walk (mb := b41) (vb := b29) (f_ := 12) (img := (fmtW 1 (2 + 0 % 20) (2 + 0 % 60))) (l := r76.2) (gw := 1) (gi := (2 + 0 % 20)) (gb := (2 + 0 % 60)) (n_ := 1) (hm := h85) B _) fun w88 hs90 => ?_
     refine zR 3 ?_
     rcases Bool.eq_false_or_eq_true (decide (r84.1 = 0)) with h91 | h91
     ·
      obtain ⟨h91p, hm⟩ := iY hm h91
      refine zS 128 h91 ?_
      refine zS 126 h91 ?_
      refine zS 127 h91 ?_
      refine zR 1 ?_
      obtain ⟨r92, h93, hm⟩ := bind_some hm
      have hs94 := St.f1 hs90
      have hs95 := St.f1 hs94
      refine zC22 hs95 (bCut_walk (mb := b41) (vb := b29) (f_ := 13) (img := (fmtW 1 (2 + 0 % 20) (2 + 0 % 60))) (l := r84.2) (gw := 1) (gi := (2 + 0 % 20)) (gb := (2 + 0 % 60)) (n_ := 1) (hm := h93) B _) fun w96 hs98 => ?_
      refine zR 3 ?_
      rcases Bool.eq_false_or_eq_true (decide (r92.1 = 1)) with h99 | h99
      ·
       obtain ⟨h99p, hm⟩ := iY hm h99
       refine zS 133 h99 ?_
       refine zS 131 h99 ?_
       refine zS 132 h99 ?_
       obtain ⟨r100, h101, hm⟩ := bind_some hm
       refine zC00 hs98 (works13_walk (hG := hG) (hT := (hs98.oldCells hT)) (hm := h101) B _) fun w102 hs104 => ?_
       refine zE 2 (hK61 _ _ ?_)
       refine W.ret ?_
       have hs105 := St.tk0 hs104
       refine ret_of (.bool r100) (by kernel_rfl) ⟨_, ⟨congrArg Value.bool (some_inj hm), rfl⟩, hs105⟩
      ·
       obtain ⟨h99p, hm⟩ := iN hm h99
       refine zS 133 h99 ?_
       refine zS 131 h99 ?_
       refine zS 132 h99 ?_
       refine zE 3 (hK61 _ _ ?_)
       refine W.ret ?_
       have hs106 := St.tk0 hs98
       refine ret_of (.bool false) (by kernel_rfl) ⟨_, ⟨congrArg Value.bool (some_inj hm), rfl⟩, hs106⟩
     ·
      obtain ⟨h91p, hm⟩ := iN hm h91
      refine zS 128 h91 ?_
      refine zS 126 h91 ?_
      refine zS 127 h91 ?_
      refine zE 8 (hK61 _ _ ?_)
      refine W.ret ?_
      have hs107 := St.tk0 hs90
      refine ret_of (.bool false) (by kernel_rfl) ⟨_, ⟨congrArg Value.bool (some_inj hm), rfl⟩, hs107⟩
    ·
     obtain ⟨h83p, hm⟩ := iN hm h83
     refine zS 123 h83 ?_
     refine zS 121 h83 ?_
     refine zS 122 h83 ?_
     refine zE 13 (hK61 _ _ ?_)
     refine W.ret ?_
     have hs108 := St.tk0 hs82
     refine ret_of (.bool false) (by kernel_rfl) ⟨_, ⟨congrArg Value.bool (some_inj hm), rfl⟩, hs108⟩
   ·
    obtain ⟨h75p, hm⟩ := iN hm h75
    refine zS 118 h75 ?_
    refine zS 116 h75 ?_
    refine zS 117 h75 ?_
    refine zE 18 (hK61 _ _ ?_)
    refine W.ret ?_
    have hs109 := St.tk0 hs73
    refine ret_of (.bool false) (by kernel_rfl) ⟨_, ⟨congrArg Value.bool (some_inj hm), rfl⟩, hs109⟩
  ·
   obtain ⟨h74p, hm⟩ := iN hm h74
   refine zS 114 h74 ?_
   refine zS 112 h74 ?_
   refine zS 113 h74 ?_
   refine zE 22 (hK61 _ _ ?_)
   refine W.ret ?_
   have hs110 := St.tk0 hs73
   refine ret_of (.bool false) (by kernel_rfl) ⟨_, ⟨congrArg Value.bool (some_inj hm), rfl⟩, hs110⟩
 ·
  obtain ⟨h40p, hm⟩ := iN hm h40
  refine zC00 hs39 (bof_err (gw := 1) (gi := (2 + 0 % 20)) (gb := (2 + 0 % 60)) (n_ := 1) (hv := (hs39.entAt 0 rfl viewA_at)) (hN := h40p) B _) fun w111 hs113 => ?_
  refine zR 5 ?_
  obtain ⟨r114, h115, hm⟩ := bind_some hm
  replace h115 := some_inj h115
  refine ops_set 16 (v := .int .i64 r114) (Eq.trans (by kernel_rfl) (congrArg (Value.int .i64) h115)) ?_
  refine zD (hK34 _ _ ?_)
  refine W.seq fun K116 hK116 => ?_
  refine W.sr fun K117 hK117 => ?_
  refine zE 6 (hK117 _ _ ?_)
  refine W.cond_true true (by kernel_rfl) rfl ?_
  refine W.sr fun K118 hK118 => ?_
  refine zE 1 (hK118 _ _ ?_)
  refine W.ret (ret_seq ?_)
  have hs119 := St.tk0 hs113
  refine ret_of (.bool false) (by kernel_rfl) ⟨_, ⟨congrArg Value.bool (some_inj hm), rfl⟩, hs119⟩

end Go.Proofs.YtmmclabkkigiaaaDoor

namespace Go.Proofs.YtmmclabkkigiaaaDoor
open Go Go.RowKit
set_option linter.unusedVariables false
set_option linter.unusedSimpArgs false

theorem blocksnil_law : blocksnil_M = some true := by
  refine Ok.true ?_
  have hM : May 1 2 2 := by unfold May; omega
  have h := Mp.fmt hM
  have hl := fmtW_len 1 2 2
  have hw := words_may hM
  unfold blocksnil_M
  simp only [show (2 : Int) + 0 % 20 = 2 from rfl, show (2 : Int) + 0 % 60 = 2 from rfl]
  refine Ok.need (by omega) (Ok.need (by omega) (Ok.need (by omega) (Ok.need (by omega) (Ok.need (by omega) (Ok.yes (by rw [h.iget]) ?_)))))
  have e1 : bat_M (fmtW 1 2 2) [] 1 2 2 1 12 = some (0, 1) := by
    unfold bat_M
    rw [if_neg (by omega), if_pos (by omega)]
  have e2 : bat_M (fmtW 1 2 2) [] 1 2 2 1 (-1) = some (0, 1) := by
    unfold bat_M
    rw [if_pos (by omega), if_pos (by omega)]
  have e3 : bTake_M (fmtW 1 2 2) [] 1 2 2 1 (-1) = some (0, 1, []) := by
    unfold bTake_M
    rw [e2]
    simp only [Option.bind]
    unfold bTake_J1
    rfl
  have e4 : bDrop_M (fmtW 1 2 2) [] 1 2 2 1 12 = some (1, []) := by
    unfold bDrop_M
    rw [e1]
    rfl
  obtain ⟨m, c', c1, c2, _⟩ := h.cut (a := 12) (by omega) (by simp)
  have e5 : bCut_M (fmtW 1 2 2) m 1 2 2 1 13 = some (1, m) := by
    unfold bCut_M
    rw [if_neg (by omega), if_pos (by omega)]
  rw [e1, e3]
  simp only [Option.bind, if_true, e4]
  have c1' : bCut_M (fmtW 1 2 2) [] 1 2 2 1 12 = some (0, m) := c1
  clear c1 c2 hl hw h e1 e2 e3 e4
  generalize fmtW 1 2 2 = F at *
  rw [c1']
  simp only [if_true, e5]
  rw [works13_eq]
  exact Ok.some rfl
end Go.Proofs.YtmmclabkkigiaaaDoor
