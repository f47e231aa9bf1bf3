/- Texts, one behind the other: A1w, P1w, K10, A1u, A1g, ALcOn, PCOn, Lo, LoS, Ro11, ClA, ClB, ClC, ClD, ClE. -/
import Derived.Test.YthimamnblklkbaaDoorRows
import Derived.Test.YthimamnblklkbaaDoorCards
import Derived.OpenShut
import Derived.Test.YthimamnblklkbaaDoorChecked
import Derived.Test.YthimamnblklkbaaDoorQCO3
set_option linter.unusedVariables false
set_option linter.unusedSimpArgs false
set_option linter.unusedVariables false
set_option maxRecDepth 20000
set_option maxHeartbeats 8000000
namespace Go.Proofs.YthimamnblklkbaaDoor
open Go Go.RowKit
set_option linter.unusedSimpArgs false
set_option linter.unusedVariables false

def works11_J1 (l98 : List (Int × Int)) : Option (Bool) :=
 (cof_M (fmtW 1 2 2) l98 0 1 1).bind fun r102 =>
(cack_M (fmtW 1 2 2) l98 0 1 3).bind fun r114 =>
(cof_M (fmtW 1 2 2) r114.2.2 0 1 1).bind fun r121 =>
(cof_M (fmtW 1 2 2) r114.2.2 0 2 1).bind fun r133 =>
(cclose_M (fmtW 1 2 2) r114.2.2 0 1).bind fun r145 =>
(cclose_M (fmtW 1 2 2) r145.2.2 0 1).bind fun r152 =>
if r102.2.2.2.2.2 = 0 then (if r102.1 = 1 then (if r102.2.1 = 0 ∧ r102.2.2.1 = 9 ∧ r102.2.2.2.1 = 0 ∧ r102.2.2.2.2.1 = ByteArray.empty then (if r114.2.1 = 0 then (if r114.1 = 1 then (if r121.2.2.2.2.2 = 0 then (if r121.1 = 2 then (if r133.2.2.2.2.2 = 22 then (if r145.2.1 = 0 then (if r145.1 = 0 then (if r152.2.1 = 0 then (some (decide (r152.1 = 1))) else (some false)) else (some false)) else (some false)) else (some false)) else (some false)) else (some false)) else (some false)) else (some false)) else (some false)) else (some false)) else (some false)

def works11_B0 (r92 : Int × List (Int × Int)) (k184 : ((List (Int × Int)) × Int) → Option (Bool)) (l182 : List (Int × Int)) (p183 : Int) : Option (Bool) :=
 if p183 < (r92.2.length : Int) then (need (0 ≤ p183 ∧ p183 < (r92.2.length : Int)) <|
need (0 ≤ p183 ∧ p183 < (r92.2.length : Int)) <|
(some (vput (fmtW 1 2 2) l182 ((r92.2.getD p183.toNat (0, 0)).1) ((r92.2.getD p183.toNat (0, 0)).2))).bind fun r228 =>
need (-9223372036854775808 ≤ (p183 + 1) ∧ (p183 + 1) ≤ 9223372036854775807) <|
k184 (r228.2, (p183 + 1))) else (works11_J1 l182)

def works11_M  : Option (Bool) :=
 need ((fmtW 1 2 2).length ≤ 17592186044415) <|
need ((fmtW 1 2 2).length ≤ 17592186044415) <|
(copen_M (fmtW 1 2 2) ([]) 0 2).bind fun r37 =>
(copen_M (fmtW 1 2 2) r37.2.2 0 1).bind fun r44 =>
(copen_M (fmtW 1 2 2) r44.2.2 0 1).bind fun r50 =>
(cof_M (fmtW 1 2 2) r50.2.2 0 1 1).bind fun r56 =>
(cof_M (fmtW 1 2 2) r50.2.2 0 1 5).bind fun r68 =>
if r37.2.1 = 0 then (if r44.2.1 = 0 then (if r50.2.1 = 0 then (if r56.2.2.2.2.2 = 0 then (if r68.2.2.2.2.2 = 0 then (if r37.1 = 3 then (if r44.1 = 0 then (if r50.1 = 1 then (if r56.1 = 0 then (if r68.1 = 3 then ((rsave_M (fmtW 1 2 2) ([]) 0 1 1 0 9 0 ByteArray.empty).bind fun r92 =>
iter (fun k_ s_ => works11_B0 r92 k_ s_.1 s_.2) FUEL (r50.2.2, 0)) else (some false)) else (some false)) else (some false)) else (some false)) else (some false)) else (some false)) else (some false)) else (some false)) else (some false)) else (some false)

theorem works11_walk   {r : Bool} (B : Nat) (w : World) (hG2 : 1 < B) (hL : CellsAt (some ⟨1, 0, none⟩) [(.int .i64 1), (.int .i64 2), (.int .i64 2)] w) (hm : works11_M = some r) : Spec Tryd.prog 65 #[] B w [] (fun v H' => v = .bool r ∧ H' = []) := by
 refine spec_Q Tryd.func65 rfl fun hs => ?_
 unfold works11_M at hm
 refine W.sr fun K1 hK1 => ?_
 refine zE 1 (hK1 _ _ ?_)
 refine W.sr fun K2 hK2 => ?_
 refine zR 1 ?_
 refine ops_call0 hs (by kernel_rfl) (format_spec (gw := 1) (gi := 2) (gb := 2) B _) ?_
 rintro _ _ w5 ⟨a3, c4, rfl, rfl⟩ hs6
 have hs7 := St.ap1 hs6
 obtain ⟨h9, hm⟩ := need_some hm
 refine ops_call0 hs7 (by kernel_rfl) (rnew_spec (hc := (St.kcells kU64 hs7 0 rfl)) (hn := (St.capnil kU64 hs7 0 rfl)) (hsz := h9) B _) ?_
 rintro _ _ w10 ⟨b8, rfl, rfl⟩ hs11
 have hs12 := St.ap1 hs11
 refine zE 1 (hK2 _ _ ?_)
 refine W.seq fun K13 hK13 => ?_
 obtain ⟨⟨_, ia14, ic15, la16, lc17, mn18⟩, ⟨ex19, hok20⟩, hs21⟩ := St.open hs12
 have hs22 : St B w [] w10 [blk b8 (.cells [(.slice ia14 ((fmtW 1 2 2).length) ic15), (.slice la16 0 lc17), (.bool mn18)].toArray 71 (0, 0)), kU64.row ia14 ic15 (fmtW 1 2 2), kWr.row la16 lc17 ([]), kU64.row a3 c4 (fmtW 1 2 2)] := by cases ex19; exact hs21
 have := hok20.many
 refine W.region ?_
 refine zR 3 ?_
 refine zL ⟨b8, 0, none⟩ (.slice ia14 ((fmtW 1 2 2).length) ic15) (hs22.cellAt 0 rfl rfl) ?_
 obtain ⟨h24, hm⟩ := need_some hm
 refine ops_call0 hs22 (by kernel_rfl) (new_spec (hc := (St.kcells kU64 hs22 1 rfl)) (hn := (St.capnil kU64 hs22 1 rfl)) (hsz := h24) B _) ?_
 rintro _ _ w25 ⟨b23, rfl, rfl⟩ hs26
 have hs27 := St.ap1 hs26
 refine zE 1 ?_
 have hs28 := St.f4 hs27
 have hs29 := St.f1 hs28
 have hs30 := St.f4 hs29
 have hs31 := St.f4 hs30
 have hs32 := St.f4 hs31
 have hs33 : St B w [] w25 [refA (ptr b8) (fmtW 1 2 2) ([]), viewA (ptr b23) (fmtW 1 2 2) ([]), kU64.row a3 c4 (fmtW 1 2 2)] := ref_close (l := []) (ia := ia14) (ic := ic15) (la := la16) (lc := lc17) (many := mn18) hok20 hs32
 refine hK13 _ _ ?_
 refine W.seq fun K34 hK34 => ?_
 refine W.sr fun K35 hK35 => ?_
 refine zE 2 (hK35 _ _ ?_)
 refine W.cond_false false (by kernel_rfl) rfl ?_
 refine W.skip ?_
 refine hK34 _ _ ?_
 refine W.sr fun K36 hK36 => ?_
 refine zR 1 ?_
 obtain ⟨r37, h38, hm⟩ := bind_some hm
 have hs39 := St.f1 hs33
 refine zC11 hs39 (copen_walk (vb := b23) (i_ := 0) (g_ := 2) (img := (fmtW 1 2 2)) (l := []) (hG2 := hG2) (hL := (hs33.oldCells hL)) (hm := h38) B _) fun w40 hs42 => ?_
 refine zE 5 (hK36 _ _ ?_)
 refine W.sr fun K43 hK43 => ?_
 refine zR 1 ?_
 obtain ⟨r44, h45, hm⟩ := bind_some hm
 refine zC11 hs42 (copen_walk (vb := b23) (i_ := 0) (g_ := 1) (img := (fmtW 1 2 2)) (l := r37.2.2) (hG2 := hG2) (hL := (hs42.oldCells hL)) (hm := h45) B _) fun w46 hs48 => ?_
 refine zE 5 (hK43 _ _ ?_)
 refine W.sr fun K49 hK49 => ?_
 refine zR 1 ?_
 obtain ⟨r50, h51, hm⟩ := bind_some hm
 refine zC11 hs48 (copen_walk (vb := b23) (i_ := 0) (g_ := 1) (img := (fmtW 1 2 2)) (l := r44.2.2) (hG2 := hG2) (hL := (hs48.oldCells hL)) (hm := h51) B _) fun w52 hs54 => ?_
 refine zE 5 (hK49 _ _ ?_)
 refine W.sr fun K55 hK55 => ?_
 refine zR 1 ?_
 obtain ⟨r56, h57, hm⟩ := bind_some hm
 refine zC00 hs54 (cof_walk (i_ := 0) (g_ := 1) (q_ := 1) (img := (fmtW 1 2 2)) (l := r50.2.2) (hL := (hs54.oldCells hL)) (hv := (hs54.entAt 0 rfl viewA_at)) (hm := h57) B _) fun w58 hs60 => ?_
 refine zR 4 ?_
 refine zN [(.int .i64 0), (.int .u64 0), (.int .u64 0), (.string ByteArray.empty)] 46 hs60 fun b63 w61 hs62 => ?_
 refine zR 1 ?_
 refine ops_store (off := 0) (cs := [(.int .i64 0), (.int .u64 0), (.int .u64 0), (.string ByteArray.empty)]) (vs := [(.int .i64 r56.2.1), (.int .u64 r56.2.2.1), (.int .u64 r56.2.2.2.1), (.string r56.2.2.2.2.1)]) hs62 (by kernel_rfl) (by simp) rfl (fun w64 hs65 => ?_)
 have hs66 : St B w [] w64 [blk b63 (.cells [(.int .i64 r56.2.1), (.int .u64 r56.2.2.1), (.int .u64 r56.2.2.2.1), (.string r56.2.2.2.2.1)].toArray 46 (0, 0)), viewA (ptr b23) (fmtW 1 2 2) r50.2.2, refA (ptr b8) (fmtW 1 2 2) ([]), kU64.row a3 c4 (fmtW 1 2 2)] := hs65
 refine zE 1 (hK55 _ _ ?_)
 refine W.sr fun K67 hK67 => ?_
 refine zR 1 ?_
 obtain ⟨r68, h69, hm⟩ := bind_some hm
 refine zC00 hs66 (cof_walk (i_ := 0) (g_ := 1) (q_ := 5) (img := (fmtW 1 2 2)) (l := r50.2.2) (hL := (hs66.oldCells hL)) (hv := (hs66.entAt 1 rfl viewA_at)) (hm := h69) B _) fun w70 hs72 => ?_
 refine zR 4 ?_
 refine zN [(.int .i64 0), (.int .u64 0), (.int .u64 0), (.string ByteArray.empty)] 46 hs72 fun b75 w73 hs74 => ?_
 refine zR 1 ?_
 refine ops_store (off := 0) (cs := [(.int .i64 0), (.int .u64 0), (.int .u64 0), (.string ByteArray.empty)]) (vs := [(.int .i64 r68.2.1), (.int .u64 r68.2.2.1), (.int .u64 r68.2.2.2.1), (.string r68.2.2.2.2.1)]) hs74 (by kernel_rfl) (by simp) rfl (fun w76 hs77 => ?_)
 have hs78 : St B w [] w76 [blk b75 (.cells [(.int .i64 r68.2.1), (.int .u64 r68.2.2.1), (.int .u64 r68.2.2.2.1), (.string r68.2.2.2.2.1)].toArray 46 (0, 0)), blk b63 (.cells [(.int .i64 r56.2.1), (.int .u64 r56.2.2.1), (.int .u64 r56.2.2.2.1), (.string r56.2.2.2.2.1)].toArray 46 (0, 0)), viewA (ptr b23) (fmtW 1 2 2) r50.2.2, refA (ptr b8) (fmtW 1 2 2) ([]), kU64.row a3 c4 (fmtW 1 2 2)] := hs77
 refine zE 1 (hK67 _ _ ?_)
 refine W.seq fun K79 hK79 => ?_
 refine W.sr fun K80 hK80 => ?_
 refine zR 3 ?_
 rcases Bool.eq_false_or_eq_true (!decide (r37.2.1 = 0)) with h81 | h81
 rotate_left
 ·
  have h81p : r37.2.1 = 0 := of_decide_eq_true (bnot_false h81)
  replace hm := ite_yes hm h81p
  refine zS 70 h81 ?_
  refine zS 69 h81 ?_
  refine zR 4 ?_
  rcases Bool.eq_false_or_eq_true (!decide (r44.2.1 = 0)) with h82 | h82
  rotate_left
  ·
   have h82p : r44.2.1 = 0 := of_decide_eq_true (bnot_false h82)
   replace hm := ite_yes hm h82p
   refine zS 74 h82 ?_
   refine zS 72 h82 ?_
   refine zS 73 h82 ?_
   refine zR 4 ?_
   rcases Bool.eq_false_or_eq_true (!decide (r50.2.1 = 0)) with h83 | h83
   rotate_left
   ·
    have h83p : r50.2.1 = 0 := of_decide_eq_true (bnot_false h83)
    replace hm := ite_yes hm h83p
    refine zS 78 h83 ?_
    refine zS 76 h83 ?_
    refine zS 77 h83 ?_
    refine zR 4 ?_
    rcases Bool.eq_false_or_eq_true (!decide (r56.2.2.2.2.2 = 0)) with h84 | h84
    rotate_left
    ·
     have h84p : r56.2.2.2.2.2 = 0 := of_decide_eq_true (bnot_false h84)
     replace hm := ite_yes hm h84p
     refine zS 82 h84 ?_
     refine zS 80 h84 ?_
     refine zS 81 h84 ?_
     refine zR 4 ?_
     rcases Bool.eq_false_or_eq_true (!decide (r68.2.2.2.2.2 = 0)) with h85 | h85
     rotate_left
     ·
      have h85p : r68.2.2.2.2.2 = 0 := of_decide_eq_true (bnot_false h85)
      replace hm := ite_yes hm h85p
      refine zS 86 h85 ?_
      refine zS 84 h85 ?_
      refine zS 85 h85 ?_
      refine zR 4 ?_
      rcases Bool.eq_false_or_eq_true (!decide (r37.1 = 3)) with h86 | h86
      rotate_left
      ·
       have h86p : r37.1 = 3 := of_decide_eq_true (bnot_false h86)
       replace hm := ite_yes hm h86p
       refine zS 90 h86 ?_
       refine zS 88 h86 ?_
       refine zS 89 h86 ?_
       refine zR 4 ?_
       rcases Bool.eq_false_or_eq_true (!decide (r44.1 = 0)) with h87 | h87
       rotate_left
       ·
        have h87p : r44.1 = 0 := of_decide_eq_true (bnot_false h87)
        replace hm := ite_yes hm h87p
        refine zS 94 h87 ?_
        refine zS 92 h87 ?_
        refine zS 93 h87 ?_
        refine zR 4 ?_
        rcases Bool.eq_false_or_eq_true (!decide (r50.1 = 1)) with h88 | h88
        rotate_left
        ·
         have h88p : r50.1 = 1 := of_decide_eq_true (bnot_false h88)
         replace hm := ite_yes hm h88p
         refine zS 98 h88 ?_
         refine zS 96 h88 ?_
         refine zS 97 h88 ?_
         refine zR 4 ?_
         rcases Bool.eq_false_or_eq_true (!decide (r56.1 = 0)) with h89 | h89
         rotate_left
         ·
          have h89p : r56.1 = 0 := of_decide_eq_true (bnot_false h89)
          replace hm := ite_yes hm h89p
          refine zS 102 h89 ?_
          refine zS 100 h89 ?_
          refine zS 101 h89 ?_
          refine zE 3 (hK80 _ _ ?_)
          refine W.cond (!decide (r68.1 = 3)) (by kernel_rfl) (fun h90 => ?_) (fun h90 => ?_)
          rotate_left
          ·
           have h90p : r68.1 = 3 := of_decide_eq_true (bnot_false h90)
           replace hm := ite_yes hm h90p
           refine W.skip ?_
           refine hK79 _ _ ?_
           refine W.sr fun K91 hK91 => ?_
           refine zR 2 ?_
           obtain ⟨r92, h93, hm⟩ := bind_some hm
           have hs94 := St.f3 hs78
           refine zC11 hs94 (rsave_walk (vb := b8) (i_ := 0) (k_ := 1) (q_ := 1) (re_ := 0) (ra_ := 9) (rb_ := 0) (rs_ := ByteArray.empty) (img := (fmtW 1 2 2)) (l := []) (hm := h93) B _) fun w95 hs97 => ?_
           refine zD (hK91 _ _ ?_)
           refine W.seq_join (fun s_ w_ => ∃ (l98 : List (Int × Int)), (∃ us, s_ = slots 216 [(2, (.pointer (some ⟨b23, 0, none⟩)))] us) ∧ St B w [] w_ [viewA (ptr b23) (fmtW 1 2 2) l98, refA (ptr b8) (fmtW 1 2 2) r92.2, blk b75 (.cells [(.int .i64 r68.2.1), (.int .u64 r68.2.2.1), (.int .u64 r68.2.2.2.1), (.string r68.2.2.2.2.1)].toArray 46 (0, 0)), blk b63 (.cells [(.int .i64 r56.2.1), (.int .u64 r56.2.2.1), (.int .u64 r56.2.2.2.1), (.string r56.2.2.2.2.1)].toArray 46 (0, 0)), kU64.row a3 c4 (fmtW 1 2 2)] ∧ works11_J1 l98 = some r) ?_ ?_
           ·
            rintro _ w99 ⟨l98, ⟨us, rfl⟩, hs100, hm⟩
            unfold works11_J1 at hm
            refine W.sr fun K101 hK101 => ?_
            refine zR 1 ?_
            obtain ⟨r102, h103, hm⟩ := bind_some hm
            refine zC00 hs100 (cof_walk (i_ := 0) (g_ := 1) (q_ := 1) (img := (fmtW 1 2 2)) (l := l98) (hL := (hs100.oldCells hL)) (hv := (hs100.entAt 0 rfl viewA_at)) (hm := h103) B _) fun w104 hs106 => ?_
            refine zR 4 ?_
            refine zN [(.int .i64 0), (.int .u64 0), (.int .u64 0), (.string ByteArray.empty)] 46 hs106 fun b109 w107 hs108 => ?_
            refine zR 1 ?_
            refine ops_store (off := 0) (cs := [(.int .i64 0), (.int .u64 0), (.int .u64 0), (.string ByteArray.empty)]) (vs := [(.int .i64 r102.2.1), (.int .u64 r102.2.2.1), (.int .u64 r102.2.2.2.1), (.string r102.2.2.2.2.1)]) hs108 (by kernel_rfl) (by simp) rfl (fun w110 hs111 => ?_)
            have hs112 : St B w [] w110 [blk b109 (.cells [(.int .i64 r102.2.1), (.int .u64 r102.2.2.1), (.int .u64 r102.2.2.2.1), (.string r102.2.2.2.2.1)].toArray 46 (0, 0)), viewA (ptr b23) (fmtW 1 2 2) l98, refA (ptr b8) (fmtW 1 2 2) r92.2, blk b75 (.cells [(.int .i64 r68.2.1), (.int .u64 r68.2.2.1), (.int .u64 r68.2.2.2.1), (.string r68.2.2.2.2.1)].toArray 46 (0, 0)), blk b63 (.cells [(.int .i64 r56.2.1), (.int .u64 r56.2.2.1), (.int .u64 r56.2.2.2.1), (.string r56.2.2.2.2.1)].toArray 46 (0, 0)), kU64.row a3 c4 (fmtW 1 2 2)] := hs111
            refine zE 1 (hK101 _ _ ?_)
            refine W.sr fun K113 hK113 => ?_
            refine zR 1 ?_
            obtain ⟨r114, h115, hm⟩ := bind_some hm
            have hs116 := St.f1 hs112
            refine zC11 hs116 (cack_walk (vb := b23) (i_ := 0) (g_ := 1) (q_ := 3) (img := (fmtW 1 2 2)) (l := l98) (hG2 := hG2) (hL := (hs112.oldCells hL)) (hm := h115) B _) fun w117 hs119 => ?_
            refine zE 5 (hK113 _ _ ?_)
            refine W.sr fun K120 hK120 => ?_
            refine zR 1 ?_
            obtain ⟨r121, h122, hm⟩ := bind_some hm
            refine zC00 hs119 (cof_walk (i_ := 0) (g_ := 1) (q_ := 1) (img := (fmtW 1 2 2)) (l := r114.2.2) (hL := (hs119.oldCells hL)) (hv := (hs119.entAt 0 rfl viewA_at)) (hm := h122) B _) fun w123 hs125 => ?_
            refine zR 4 ?_
            refine zN [(.int .i64 0), (.int .u64 0), (.int .u64 0), (.string ByteArray.empty)] 46 hs125 fun b128 w126 hs127 => ?_
            refine zR 1 ?_
            refine ops_store (off := 0) (cs := [(.int .i64 0), (.int .u64 0), (.int .u64 0), (.string ByteArray.empty)]) (vs := [(.int .i64 r121.2.1), (.int .u64 r121.2.2.1), (.int .u64 r121.2.2.2.1), (.string r121.2.2.2.2.1)]) hs127 (by kernel_rfl) (by simp) rfl (fun w129 hs130 => ?_)
            have hs131 : St B w [] w129 [blk b128 (.cells [(.int .i64 r121.2.1), (.int .u64 r121.2.2.1), (.int .u64 r121.2.2.2.1), (.string r121.2.2.2.2.1)].toArray 46 (0, 0)), viewA (ptr b23) (fmtW 1 2 2) r114.2.2, blk b109 (.cells [(.int .i64 r102.2.1), (.int .u64 r102.2.2.1), (.int .u64 r102.2.2.2.1), (.string r102.2.2.2.2.1)].toArray 46 (0, 0)), refA (ptr b8) (fmtW 1 2 2) r92.2, blk b75 (.cells [(.int .i64 r68.2.1), (.int .u64 r68.2.2.1), (.int .u64 r68.2.2.2.1), (.string r68.2.2.2.2.1)].toArray 46 (0, 0)), blk b63 (.cells [(.int .i64 r56.2.1), (.int .u64 r56.2.2.1), (.int .u64 r56.2.2.2.1), (.string r56.2.2.2.2.1)].toArray 46 (0, 0)), kU64.row a3 c4 (fmtW 1 2 2)] := hs130
            refine zE 1 (hK120 _ _ ?_)
            refine W.sr fun K132 hK132 => ?_
            refine zR 1 ?_
            obtain ⟨r133, h134, hm⟩ := bind_some hm
            refine zC00 hs131 (cof_walk (i_ := 0) (g_ := 2) (q_ := 1) (img := (fmtW 1 2 2)) (l := r114.2.2) (hL := (hs131.oldCells hL)) (hv := (hs131.entAt 1 rfl viewA_at)) (hm := h134) B _) fun w135 hs137 => ?_
            refine zR 4 ?_
            refine zN [(.int .i64 0), (.int .u64 0), (.int .u64 0), (.string ByteArray.empty)] 46 hs137 fun b140 w138 hs139 => ?_
            refine zR 1 ?_
            refine ops_store (off := 0) (cs := [(.int .i64 0), (.int .u64 0), (.int .u64 0), (.string ByteArray.empty)]) (vs := [(.int .i64 r133.2.1), (.int .u64 r133.2.2.1), (.int .u64 r133.2.2.2.1), (.string r133.2.2.2.2.1)]) hs139 (by kernel_rfl) (by simp) rfl (fun w141 hs142 => ?_)
            have hs143 : St B w [] w141 [blk b140 (.cells [(.int .i64 r133.2.1), (.int .u64 r133.2.2.1), (.int .u64 r133.2.2.2.1), (.string r133.2.2.2.2.1)].toArray 46 (0, 0)), blk b128 (.cells [(.int .i64 r121.2.1), (.int .u64 r121.2.2.1), (.int .u64 r121.2.2.2.1), (.string r121.2.2.2.2.1)].toArray 46 (0, 0)), viewA (ptr b23) (fmtW 1 2 2) r114.2.2, blk b109 (.cells [(.int .i64 r102.2.1), (.int .u64 r102.2.2.1), (.int .u64 r102.2.2.2.1), (.string r102.2.2.2.2.1)].toArray 46 (0, 0)), refA (ptr b8) (fmtW 1 2 2) r92.2, blk b75 (.cells [(.int .i64 r68.2.1), (.int .u64 r68.2.2.1), (.int .u64 r68.2.2.2.1), (.string r68.2.2.2.2.1)].toArray 46 (0, 0)), blk b63 (.cells [(.int .i64 r56.2.1), (.int .u64 r56.2.2.1), (.int .u64 r56.2.2.2.1), (.string r56.2.2.2.2.1)].toArray 46 (0, 0)), kU64.row a3 c4 (fmtW 1 2 2)] := hs142
            refine zE 1 (hK132 _ _ ?_)
            refine W.sr fun K144 hK144 => ?_
            refine zR 1 ?_
            obtain ⟨r145, h146, hm⟩ := bind_some hm
            have hs147 := St.f2 hs143
            refine zC11 hs147 (cclose_walk (vb := b23) (i_ := 0) (g_ := 1) (img := (fmtW 1 2 2)) (l := r114.2.2) (hG2 := hG2) (hL := (hs143.oldCells hL)) (hm := h146) B _) fun w148 hs150 => ?_
            refine zE 5 (hK144 _ _ ?_)
            refine W.sr fun K151 hK151 => ?_
            refine zR 1 ?_
            obtain ⟨r152, h153, hm⟩ := bind_some hm
            refine zC11 hs150 (cclose_walk (vb := b23) (i_ := 0) (g_ := 1) (img := (fmtW 1 2 2)) (l := r145.2.2) (hG2 := hG2) (hL := (hs150.oldCells hL)) (hm := h153) B _) fun w154 hs156 => ?_
            refine zE 5 (hK151 _ _ ?_)
            refine W.sr fun K157 hK157 => ?_
            refine zR 3 ?_
            rcases Bool.eq_false_or_eq_true (decide (r102.2.2.2.2.2 = 0)) with h158 | h158
            ·
             obtain ⟨h158p, hm⟩ := iY hm h158
             refine zS 171 h158 ?_
             refine zS 170 h158 ?_
             refine zR 4 ?_
             rcases Bool.eq_false_or_eq_true (decide (r102.1 = 1)) with h159 | h159
             ·
              obtain ⟨h159p, hm⟩ := iY hm h159
              refine zS 175 h159 ?_
              refine zS 173 h159 ?_
              refine zS 174 h159 ?_
              refine ops_R (runs_loadAgg (ad := ⟨b109, 0, none⟩) (cs := [(.int .i64 r102.2.1), (.int .u64 r102.2.2.1), (.int .u64 r102.2.2.2.1), (.string r102.2.2.2.2.1)]) (by kernel_rfl) (cells_sub (hs156.heapAt 3 rfl) rfl)) ?_
              refine zR 1 ?_
              refine ops_R (v := (.bool ((decide (r102.2.1 = 0)) && ((decide (r102.2.2.1 = 9)) && ((decide (r102.2.2.2.1 = 0)) && ((r102.2.2.2.2.1 == ByteArray.empty) && true)))))) (runs_eq (b := ((decide (r102.2.1 = 0)) && ((decide (r102.2.2.1 = 9)) && ((decide (r102.2.2.2.1 = 0)) && ((r102.2.2.2.2.1 == ByteArray.empty) && true))))) (by kernel_rfl)) ?_
              refine zR 2 ?_
              rcases Bool.eq_false_or_eq_true ((decide (r102.2.1 = 0)) && ((decide (r102.2.2.1 = 9)) && ((decide (r102.2.2.2.1 = 0)) && ((r102.2.2.2.2.1 == ByteArray.empty) && true)))) with h160 | h160
              ·
               have h160p : r102.2.1 = 0 ∧ r102.2.2.1 = 9 ∧ r102.2.2.2.1 = 0 ∧ r102.2.2.2.2.1 = ByteArray.empty := by simpa using h160
               replace hm := ite_yes hm h160p
               refine zS 180 h160 ?_
               refine zS 178 h160 ?_
               refine zS 179 h160 ?_
               refine zR 4 ?_
               rcases Bool.eq_false_or_eq_true (decide (r114.2.1 = 0)) with h161 | h161
               ·
                obtain ⟨h161p, hm⟩ := iY hm h161
                refine zS 184 h161 ?_
                refine zS 182 h161 ?_
                refine zS 183 h161 ?_
                refine zR 4 ?_
                rcases Bool.eq_false_or_eq_true (decide (r114.1 = 1)) with h162 | h162
                ·
                 obtain ⟨h162p, hm⟩ := iY hm h162
                 refine zS 188 h162 ?_
                 refine zS 186 h162 ?_
                 refine zS 187 h162 ?_
                 refine zR 4 ?_
                 rcases Bool.eq_false_or_eq_true (decide (r121.2.2.2.2.2 = 0)) with h163 | h163
                 ·
                  obtain ⟨h163p, hm⟩ := iY hm h163
                  refine zS 192 h163 ?_
                  refine zS 190 h163 ?_
                  refine zS 191 h163 ?_
                  refine zR 4 ?_
                  rcases Bool.eq_false_or_eq_true (decide (r121.1 = 2)) with h164 | h164
                  ·
                   obtain ⟨h164p, hm⟩ := iY hm h164
                   refine zS 196 h164 ?_
                   refine zS 194 h164 ?_
                   refine zS 195 h164 ?_
                   refine zR 4 ?_
                   rcases Bool.eq_false_or_eq_true (decide (r133.2.2.2.2.2 = 22)) with h165 | h165
                   ·
                    obtain ⟨h165p, hm⟩ := iY hm h165
                    refine zS 200 h165 ?_
                    refine zS 198 h165 ?_
                    refine zS 199 h165 ?_
                    refine zR 4 ?_
                    rcases Bool.eq_false_or_eq_true (decide (r145.2.1 = 0)) with h166 | h166
                    ·
                     obtain ⟨h166p, hm⟩ := iY hm h166
                     refine zS 204 h166 ?_
                     refine zS 202 h166 ?_
                     refine zS 203 h166 ?_
                     refine zR 4 ?_
                     rcases Bool.eq_false_or_eq_true (decide (r145.1 = 0)) with h167 | h167
                     ·
                      obtain ⟨h167p, hm⟩ := iY hm h167
                      refine zS 208 h167 ?_
                      refine zS 206 h167 ?_
                      refine zS 207 h167 ?_
                      refine zR 4 ?_
                      rcases Bool.eq_false_or_eq_true (decide (r152.2.1 = 0)) with h168 | h168
                      ·
                       obtain ⟨h168p, hm⟩ := iY hm h168
                       refine zS 212 h168 ?_
                       refine zS 210 h168 ?_
                       refine zS 211 h168 ?_
                       refine zE 4 (hK157 _ _ ?_)
                       refine W.ret ?_
                       obtain rfl := some_inj hm
                       have hs169 := St.tk0 hs156
                       refine ret_of (.bool (decide (r152.1 = 1))) (by kernel_rfl) ⟨_, ⟨rfl, rfl⟩, hs169⟩
                      ·
                       obtain ⟨h168p, hm⟩ := iN hm h168
                       refine zS 212 h168 ?_
                       refine zS 210 h168 ?_
                       refine zS 211 h168 ?_
                       refine zE 4 (hK157 _ _ ?_)
                       refine W.ret ?_
                       obtain rfl := some_inj hm
                       have hs170 := St.tk0 hs156
                       refine ret_of (.bool false) (by kernel_rfl) ⟨_, ⟨rfl, rfl⟩, hs170⟩
                     ·
                      obtain ⟨h167p, hm⟩ := iN hm h167
                      refine zS 208 h167 ?_
                      refine zS 206 h167 ?_
                      refine zS 207 h167 ?_
                      refine zE 8 (hK157 _ _ ?_)
                      refine W.ret ?_
                      obtain rfl := some_inj hm
                      have hs171 := St.tk0 hs156
                      refine ret_of (.bool false) (by kernel_rfl) ⟨_, ⟨rfl, rfl⟩, hs171⟩
                    ·
                     obtain ⟨h166p, hm⟩ := iN hm h166
                     refine zS 204 h166 ?_
                     refine zS 202 h166 ?_
                     refine zS 203 h166 ?_
                     refine zE 12 (hK157 _ _ ?_)
                     refine W.ret ?_
                     obtain rfl := some_inj hm
                     have hs172 := St.tk0 hs156
                     refine ret_of (.bool false) (by kernel_rfl) ⟨_, ⟨rfl, rfl⟩, hs172⟩
                   ·
                    obtain ⟨h165p, hm⟩ := iN hm h165
                    refine zS 200 h165 ?_
                    refine zS 198 h165 ?_
                    refine zS 199 h165 ?_
                    refine zE 16 (hK157 _ _ ?_)
                    refine W.ret ?_
                    obtain rfl := some_inj hm
                    have hs173 := St.tk0 hs156
                    refine ret_of (.bool false) (by kernel_rfl) ⟨_, ⟨rfl, rfl⟩, hs173⟩
                  ·
                   obtain ⟨h164p, hm⟩ := iN hm h164
                   refine zS 196 h164 ?_
                   refine zS 194 h164 ?_
                   refine zS 195 h164 ?_
                   refine zE 20 (hK157 _ _ ?_)
                   refine W.ret ?_
                   obtain rfl := some_inj hm
                   have hs174 := St.tk0 hs156
                   refine ret_of (.bool false) (by kernel_rfl) ⟨_, ⟨rfl, rfl⟩, hs174⟩
                 ·
                  obtain ⟨h163p, hm⟩ := iN hm h163
                  refine zS 192 h163 ?_
                  refine zS 190 h163 ?_
                  refine zS 191 h163 ?_
                  refine zE 24 (hK157 _ _ ?_)
                  refine W.ret ?_
                  obtain rfl := some_inj hm
                  have hs175 := St.tk0 hs156
                  refine ret_of (.bool false) (by kernel_rfl) ⟨_, ⟨rfl, rfl⟩, hs175⟩
                ·
                 obtain ⟨h162p, hm⟩ := iN hm h162
                 refine zS 188 h162 ?_
                 refine zS 186 h162 ?_
                 refine zS 187 h162 ?_
                 refine zE 28 (hK157 _ _ ?_)
                 refine W.ret ?_
                 obtain rfl := some_inj hm
                 have hs176 := St.tk0 hs156
                 refine ret_of (.bool false) (by kernel_rfl) ⟨_, ⟨rfl, rfl⟩, hs176⟩
               ·
                obtain ⟨h161p, hm⟩ := iN hm h161
                refine zS 184 h161 ?_
                refine zS 182 h161 ?_
                refine zS 183 h161 ?_
                refine zE 32 (hK157 _ _ ?_)
                refine W.ret ?_
                obtain rfl := some_inj hm
                have hs177 := St.tk0 hs156
                refine ret_of (.bool false) (by kernel_rfl) ⟨_, ⟨rfl, rfl⟩, hs177⟩
              ·
               have h160p : ¬ (r102.2.1 = 0 ∧ r102.2.2.1 = 9 ∧ r102.2.2.2.1 = 0 ∧ r102.2.2.2.2.1 = ByteArray.empty) := by simpa using h160
               replace hm := ite_no hm h160p
               refine zS 180 h160 ?_
               refine zS 178 h160 ?_
               refine zS 179 h160 ?_
               refine zE 36 (hK157 _ _ ?_)
               refine W.ret ?_
               obtain rfl := some_inj hm
               have hs178 := St.tk0 hs156
               refine ret_of (.bool false) (by kernel_rfl) ⟨_, ⟨rfl, rfl⟩, hs178⟩
             ·
              obtain ⟨h159p, hm⟩ := iN hm h159
              refine zS 175 h159 ?_
              refine zS 173 h159 ?_
              refine zS 174 h159 ?_
              refine zE 41 (hK157 _ _ ?_)
              refine W.ret ?_
              obtain rfl := some_inj hm
              have hs179 := St.tk0 hs156
              refine ret_of (.bool false) (by kernel_rfl) ⟨_, ⟨rfl, rfl⟩, hs179⟩
            ·
             obtain ⟨h158p, hm⟩ := iN hm h158
             refine zS 171 h158 ?_
             refine zS 170 h158 ?_
             refine zE 45 (hK157 _ _ ?_)
             refine W.ret ?_
             obtain rfl := some_inj hm
             have hs180 := St.tk0 hs156
             refine ret_of (.bool false) (by kernel_rfl) ⟨_, ⟨rfl, rfl⟩, hs180⟩
           ·
            refine W.sr fun K181 hK181 => ?_
            refine zE 1 (hK181 _ _ ?_)
            refine W.block ?_
            have hs188 := St.f4 hs97
            have hs189 := St.f3 hs188
            have hs190 := St.f3 hs189
            have hs191 := St.f4 hs190
            have hs192 := St.f4 hs191
            refine W.loop_iter (G := (List (Int × Int)) × Int) (σ := (List (Int × Int)) × Int) (fun | (l182, p183) => (l182, p183)) (fun | (l182, p183), s_, w_ => (∃ us, s_ = slots 216 [(1, (.pointer (some ⟨b8, 0, none⟩))), (2, (.pointer (some ⟨b23, 0, none⟩))), (15, (.int .i64 p183))] us) ∧ St B w [] w_ [refA (ptr b8) (fmtW 1 2 2) r92.2, viewA (ptr b23) (fmtW 1 2 2) l182, blk b75 (.cells [(.int .i64 r68.2.1), (.int .u64 r68.2.2.1), (.int .u64 r68.2.2.2.1), (.string r68.2.2.2.2.1)].toArray 46 (0, 0)), blk b63 (.cells [(.int .i64 r56.2.1), (.int .u64 r56.2.2.1), (.int .u64 r56.2.2.2.1), (.string r56.2.2.2.2.1)].toArray 46 (0, 0)), kU64.row a3 c4 (fmtW 1 2 2)]) (r50.2.2, 0) ⟨slots_intro _ (by kernel_rfl), hs192⟩ hm ?_
            rintro k184 ih185 ⟨l182, p183⟩ _ w186 ⟨⟨us, rfl⟩, hs187⟩ hm
            replace hm : works11_B0 r92 k184 l182 p183 = some r := hm
            unfold works11_B0 at hm
            refine W.seq fun K193 hK193 => ?_
            refine W.seq fun K194 hK194 => ?_
            obtain ⟨⟨_, ia195, ic196, la197, lc198, mn199⟩, ⟨ex200, hok201⟩, hs202⟩ := St.open hs187
            have hs203 : St B w [] w186 [blk b8 (.cells [(.slice ia195 ((fmtW 1 2 2).length) ic196), (.slice la197 r92.2.length lc198), (.bool mn199)].toArray 71 (0, 0)), kU64.row ia195 ic196 (fmtW 1 2 2), kWr.row la197 lc198 r92.2, viewA (ptr b23) (fmtW 1 2 2) l182, blk b75 (.cells [(.int .i64 r68.2.1), (.int .u64 r68.2.2.1), (.int .u64 r68.2.2.2.1), (.string r68.2.2.2.2.1)].toArray 46 (0, 0)), blk b63 (.cells [(.int .i64 r56.2.1), (.int .u64 r56.2.2.1), (.int .u64 r56.2.2.2.1), (.string r56.2.2.2.2.1)].toArray 46 (0, 0)), kU64.row a3 c4 (fmtW 1 2 2)] := by cases ex200; exact hs202
            have := hok201.many
            refine W.region ?_
            refine zR 4 ?_
            refine zL ⟨b8, 1, none⟩ (.slice la197 r92.2.length lc198) (hs203.cellAt 0 rfl rfl) ?_
            refine zE 2 ?_
            have hs204 : St B w [] w186 [refA (ptr b8) (fmtW 1 2 2) r92.2, viewA (ptr b23) (fmtW 1 2 2) l182, blk b75 (.cells [(.int .i64 r68.2.1), (.int .u64 r68.2.2.1), (.int .u64 r68.2.2.2.1), (.string r68.2.2.2.2.1)].toArray 46 (0, 0)), blk b63 (.cells [(.int .i64 r56.2.1), (.int .u64 r56.2.2.1), (.int .u64 r56.2.2.2.1), (.string r56.2.2.2.2.1)].toArray 46 (0, 0)), kU64.row a3 c4 (fmtW 1 2 2)] := ref_close (l := r92.2) (ia := ia195) (ic := ic196) (la := la197) (lc := lc198) (many := mn199) hok201 hs203
            refine hK194 _ _ ?_
            refine W.cond (decide (p183 < (r92.2.length : Int))) (by kernel_rfl) (fun h205 => ?_) (fun h205 => ?_)
            ·
             obtain ⟨h205p, hm⟩ := iY hm h205
             refine W.skip ?_
             refine hK193 _ _ ?_
             refine W.seq fun K206 hK206 => ?_
             refine W.block ?_
             obtain ⟨⟨_, ia207, ic208, la209, lc210, mn211⟩, ⟨ex212, hok213⟩, hs214⟩ := St.open hs204
             have hs215 : St B w [] w186 [blk b8 (.cells [(.slice ia207 ((fmtW 1 2 2).length) ic208), (.slice la209 r92.2.length lc210), (.bool mn211)].toArray 71 (0, 0)), kU64.row ia207 ic208 (fmtW 1 2 2), kWr.row la209 lc210 r92.2, viewA (ptr b23) (fmtW 1 2 2) l182, blk b75 (.cells [(.int .i64 r68.2.1), (.int .u64 r68.2.2.1), (.int .u64 r68.2.2.2.1), (.string r68.2.2.2.2.1)].toArray 46 (0, 0)), blk b63 (.cells [(.int .i64 r56.2.1), (.int .u64 r56.2.2.1), (.int .u64 r56.2.2.2.1), (.string r56.2.2.2.2.1)].toArray 46 (0, 0)), kU64.row a3 c4 (fmtW 1 2 2)] := by cases ex212; exact hs214
             have := hok213.many
             have hs216 := hs215.drew
             have hs217 := St.f6 hs216
             have hs218 := St.f6 hs217
             have hs219 := St.f6 hs218
             have hs220 := St.f5 hs219
             have hs221 := St.f5 hs220
             have hs222 := St.f5 hs221
             have hs223 := St.tk6 hs222
             refine W.regionD [(0, 0), (0, 0), (2, 2), (4, 4), (8, 8), (0, 0), (48, 48), (64, 64), (128, 128), (0, 0), (512, 512), (1024, 1024), (2048, 2048), (0, 0), (12288, 12288), (16384, 16384), (32768, 32768), (65793, 65793)] (fun w_ => St B w [] w_ [blk b8 (.cells [(.slice ia207 ((fmtW 1 2 2).length) ic208), (.slice la209 r92.2.length lc210), (.bool mn211)].toArray 71 (0, 0)), kU64.row ia207 ic208 (fmtW 1 2 2), kWr.row la209 lc210 r92.2, blk b75 (.cells [(.int .i64 r68.2.1), (.int .u64 r68.2.2.1), (.int .u64 r68.2.2.2.1), (.string r68.2.2.2.2.1)].toArray 46 (0, 0)), blk b63 (.cells [(.int .i64 r56.2.1), (.int .u64 r56.2.2.1), (.int .u64 r56.2.2.2.1), (.string r56.2.2.2.2.1)].toArray 46 (0, 0)), kU64.row a3 c4 (fmtW 1 2 2)]) (by kernel_rfl) hs223 ?_
             refine any_val (v := (.pointer (some ⟨b23, 0, none⟩))) (v' := (.pointer (some ⟨b23, 0, none⟩))) 0 (by kernel_rfl) (fun _ => by kernel_rfl) rfl hs223 ?_
             refine any_val (v := (.pointer (some ⟨b8, 0, none⟩))) (v' := (.pointer (some ⟨b8, 0, none⟩))) 1 (by kernel_rfl) (fun _ => by kernel_rfl) rfl hs223 ?_
             refine any_val (v := (.pointer (some ⟨b8, 0, none⟩))) (v' := (.pointer (some ⟨b8, 0, none⟩))) 2 (by kernel_rfl) (fun _ => by kernel_rfl) rfl hs223 ?_
             refine any_val (v := (.pointer (some ⟨b8, 1, none⟩))) (v' := (.pointer (some ⟨b8, 1, none⟩))) 3 (by kernel_rfl) (fun _ => by kernel_rfl) rfl hs223 ?_
             refine any_R 4 (by kernel_rfl) (fun _ hS_ => runs_load (ad := ⟨b8, 1, none⟩) (v := (.slice la209 r92.2.length lc210)) (by kernel_rfl) (hS_.cellAt 0 rfl rfl)) hs223 ?_
             refine any_val (v := (.int .i64 p183)) (v' := (.int .i64 p183)) 5 (by kernel_rfl) (fun _ => by kernel_rfl) rfl hs223 ?_
             obtain ⟨h225, hm⟩ := need_some hm
             have hk224 := lt_toNat h225
             refine any_R 6 (by kernel_rfl) (fun _ hS_ => runs_index (a := la209) (n := r92.2.length) (z := p183) (size := 2) p183.toNat (nat_of h225.1) hk224 (kWr.addr (St.kcells kWr hs216 2 rfl) hk224) (by kernel_rfl)) hs223 ?_
             refine any_val (v := (.pointer (some (adr la209 (p183.toNat * 2))))) (v' := (.pointer (some (adr la209 (p183.toNat * 2))))) 7 (by kernel_rfl) (fun _ => by kernel_rfl) rfl hs223 ?_
             refine any_R 8 (by kernel_rfl) (fun _ hS_ => runs_load (ad := ((adr la209 (p183.toNat * 2)).add 0)) (v := (.int .i64 ((r92.2.getD p183.toNat (0, 0)).1))) (by kernel_rfl) (kWr.at (St.kcells kWr hS_ 2 rfl) hk224 (0, 0) 0 rfl)) hs223 ?_
             refine any_val (v := (.pointer (some ⟨b8, 0, none⟩))) (v' := (.pointer (some ⟨b8, 0, none⟩))) 9 (by kernel_rfl) (fun _ => by kernel_rfl) rfl hs223 ?_
             refine any_val (v := (.pointer (some ⟨b8, 0, none⟩))) (v' := (.pointer (some ⟨b8, 0, none⟩))) 10 (by kernel_rfl) (fun _ => by kernel_rfl) rfl hs223 ?_
             refine any_val (v := (.pointer (some ⟨b8, 1, none⟩))) (v' := (.pointer (some ⟨b8, 1, none⟩))) 11 (by kernel_rfl) (fun _ => by kernel_rfl) rfl hs223 ?_
             refine any_R 12 (by kernel_rfl) (fun _ hS_ => runs_load (ad := ⟨b8, 1, none⟩) (v := (.slice la209 r92.2.length lc210)) (by kernel_rfl) (hS_.cellAt 0 rfl rfl)) hs223 ?_
             refine any_val (v := (.int .i64 p183)) (v' := (.int .i64 p183)) 13 (by kernel_rfl) (fun _ => by kernel_rfl) rfl hs223 ?_
             obtain ⟨h227, hm⟩ := need_some hm
             have hk226 := lt_toNat h227
             refine any_R 14 (by kernel_rfl) (fun _ hS_ => runs_index (a := la209) (n := r92.2.length) (z := p183) (size := 2) p183.toNat (nat_of h227.1) hk226 (kWr.addr (St.kcells kWr hs216 2 rfl) hk226) (by kernel_rfl)) hs223 ?_
             refine any_val (v := (.pointer (some ((adr la209 (p183.toNat * 2)).add 1)))) (v' := (.pointer (some ((adr la209 (p183.toNat * 2)).add 1)))) 15 (by kernel_rfl) (fun _ => by kernel_rfl) rfl hs223 ?_
             refine any_R 16 (by kernel_rfl) (fun _ hS_ => runs_load (ad := ((adr la209 (p183.toNat * 2)).add 1)) (v := (.int .u64 ((r92.2.getD p183.toNat (0, 0)).2))) (by kernel_rfl) (kWr.at (St.kcells kWr hS_ 2 rfl) hk226 (0, 0) 1 rfl)) hs223 ?_
             refine any_step 17 (by kernel_rfl) (by kernel_rfl) ?_
             obtain ⟨r228, h229, hm⟩ := bind_some hm
             replace h229 := some_inj h229
             have hs232 := St.f3 hs216
             refine ops_call1 hs232 (by kernel_rfl) (put_spec (p := (.pointer (some ⟨b23, 0, none⟩))) (img := (fmtW 1 2 2)) (l := l182) (at_ := (r92.2.getD p183.toNat (0, 0)).1) (x_ := (r92.2.getD p183.toNat (0, 0)).2) B _) ?_
             rintro _ _ w233 ⟨hv230, hH231⟩ hs234
             rw [h229] at hv230
             try rw [h229] at hH231
             subst hv230 hH231
             have hs235 := St.ap1 hs234
             have hs236 := St.f6 hs235
             have hs237 := St.f6 hs236
             have hs238 := St.f6 hs237
             have hs239 := St.f6 hs238
             have hs240 := St.f6 hs239
             have hs241 := St.f6 hs240
             have hs242 := St.tk6 hs241
             refine ops_done (by kernel_rfl) ⟨hs242, ?_⟩
             refine any_done (by kernel_rfl) ?_
             have hs243 := St.f6 hs235
             have hs244 := St.f6 hs243
             have hs245 := St.f6 hs244
             have hs246 := St.f3 hs245
             have hs247 := St.f6 hs246
             have hs248 := St.f6 hs247
             have hs249 := St.f6 hs248
             have hs250 : St B w [] w233 [refA (ptr b8) (fmtW 1 2 2) r92.2, viewA (ptr b23) (fmtW 1 2 2) r228.2, blk b75 (.cells [(.int .i64 r68.2.1), (.int .u64 r68.2.2.1), (.int .u64 r68.2.2.2.1), (.string r68.2.2.2.2.1)].toArray 46 (0, 0)), blk b63 (.cells [(.int .i64 r56.2.1), (.int .u64 r56.2.2.1), (.int .u64 r56.2.2.2.1), (.string r56.2.2.2.2.1)].toArray 46 (0, 0)), kU64.row a3 c4 (fmtW 1 2 2)] := ref_close (l := r92.2) (ia := ia207) (ic := ic208) (la := la209) (lc := lc210) (many := mn211) hok213 hs249
             refine normal_block ?_
             refine hK206 _ _ ?_
             refine W.region ?_
             refine zR 1 ?_
             obtain ⟨h251, hm⟩ := need_some hm
             refine zI _ (wrap_i64 h251.1 h251.2) ?_
             refine zE 1 ?_
             refine loopAt_next ?_
             exact ih185 (r228.2, (p183 + 1)) _ _ ⟨slots_intro _ (by kernel_rfl), hs250⟩ hm
            ·
             obtain ⟨h205p, hm⟩ := iN hm h205
             refine W.exit (exit_seq (exit_seq (exit_here ?_)))
             have hs252 := St.f4 hs204
             have hs253 := St.f4 hs252
             have hs254 := St.f4 hs253
             have hs255 := St.f3 hs254
             have hs256 := St.f4 hs255
             exact ⟨l182, slots_intro _ (by kernel_rfl), hs256, hm⟩
          ·
           have h90p : ¬ (r68.1 = 3) := of_decide_eq_false (bnot_true h90)
           replace hm := ite_no hm h90p
           refine W.sr fun K257 hK257 => ?_
           refine zE 1 (hK257 _ _ ?_)
           refine W.ret (ret_seq ?_)
           obtain rfl := some_inj hm
           have hs258 := St.tk0 hs78
           refine ret_of (.bool false) (by kernel_rfl) ⟨_, ⟨rfl, rfl⟩, hs258⟩
         ·
          have h89p : ¬ (r56.1 = 0) := of_decide_eq_false (bnot_true h89)
          replace hm := ite_no hm h89p
          refine zS 102 h89 ?_
          refine zS 100 h89 ?_
          refine zS 101 h89 ?_
          refine zE 3 (hK80 _ _ ?_)
          refine W.cond_true true (by kernel_rfl) rfl ?_
          refine W.sr fun K259 hK259 => ?_
          refine zE 1 (hK259 _ _ ?_)
          refine W.ret (ret_seq ?_)
          obtain rfl := some_inj hm
          have hs260 := St.tk0 hs78
          refine ret_of (.bool false) (by kernel_rfl) ⟨_, ⟨rfl, rfl⟩, hs260⟩
        ·
         have h88p : ¬ (r50.1 = 1) := of_decide_eq_false (bnot_true h88)
         replace hm := ite_no hm h88p
         refine zS 98 h88 ?_
         refine zS 96 h88 ?_
         refine zS 97 h88 ?_
         refine zE 7 (hK80 _ _ ?_)
         refine W.cond_true true (by kernel_rfl) rfl ?_
         refine W.sr fun K261 hK261 => ?_
         refine zE 1 (hK261 _ _ ?_)
         refine W.ret (ret_seq ?_)
         obtain rfl := some_inj hm
         have hs262 := St.tk0 hs78
         refine ret_of (.bool false) (by kernel_rfl) ⟨_, ⟨rfl, rfl⟩, hs262⟩
       ·
        have h87p : ¬ (r44.1 = 0) := of_decide_eq_false (bnot_true h87)
        replace hm := ite_no hm h87p
        refine zS 94 h87 ?_
        refine zS 92 h87 ?_
        refine zS 93 h87 ?_
        refine zE 11 (hK80 _ _ ?_)
        refine W.cond_true true (by kernel_rfl) rfl ?_
        refine W.sr fun K263 hK263 => ?_
        refine zE 1 (hK263 _ _ ?_)
        refine W.ret (ret_seq ?_)
        obtain rfl := some_inj hm
        have hs264 := St.tk0 hs78
        refine ret_of (.bool false) (by kernel_rfl) ⟨_, ⟨rfl, rfl⟩, hs264⟩
      ·
       have h86p : ¬ (r37.1 = 3) := of_decide_eq_false (bnot_true h86)
       replace hm := ite_no hm h86p
       refine zS 90 h86 ?_
       refine zS 88 h86 ?_
       refine zS 89 h86 ?_
       refine zE 15 (hK80 _ _ ?_)
       refine W.cond_true true (by kernel_rfl) rfl ?_
       refine W.sr fun K265 hK265 => ?_
       refine zE 1 (hK265 _ _ ?_)
       refine W.ret (ret_seq ?_)
       obtain rfl := some_inj hm
       have hs266 := St.tk0 hs78
       refine ret_of (.bool false) (by kernel_rfl) ⟨_, ⟨rfl, rfl⟩, hs266⟩
     ·
      have h85p : ¬ (r68.2.2.2.2.2 = 0) := of_decide_eq_false (bnot_true h85)
      replace hm := ite_no hm h85p
      refine zS 86 h85 ?_
      refine zS 84 h85 ?_
      refine zS 85 h85 ?_
      refine zE 19 (hK80 _ _ ?_)
      refine W.cond_true true (by kernel_rfl) rfl ?_
      refine W.sr fun K267 hK267 => ?_
      refine zE 1 (hK267 _ _ ?_)
      refine W.ret (ret_seq ?_)
      obtain rfl := some_inj hm
      have hs268 := St.tk0 hs78
      refine ret_of (.bool false) (by kernel_rfl) ⟨_, ⟨rfl, rfl⟩, hs268⟩
    ·
     have h84p : ¬ (r56.2.2.2.2.2 = 0) := of_decide_eq_false (bnot_true h84)
     replace hm := ite_no hm h84p
     refine zS 82 h84 ?_
     refine zS 80 h84 ?_
     refine zS 81 h84 ?_
     refine zE 23 (hK80 _ _ ?_)
     refine W.cond_true true (by kernel_rfl) rfl ?_
     refine W.sr fun K269 hK269 => ?_
     refine zE 1 (hK269 _ _ ?_)
     refine W.ret (ret_seq ?_)
     obtain rfl := some_inj hm
     have hs270 := St.tk0 hs78
     refine ret_of (.bool false) (by kernel_rfl) ⟨_, ⟨rfl, rfl⟩, hs270⟩
   ·
    have h83p : ¬ (r50.2.1 = 0) := of_decide_eq_false (bnot_true h83)
    replace hm := ite_no hm h83p
    refine zS 78 h83 ?_
    refine zS 76 h83 ?_
    refine zS 77 h83 ?_
    refine zE 27 (hK80 _ _ ?_)
    refine W.cond_true true (by kernel_rfl) rfl ?_
    refine W.sr fun K271 hK271 => ?_
    refine zE 1 (hK271 _ _ ?_)
    refine W.ret (ret_seq ?_)
    obtain rfl := some_inj hm
    have hs272 := St.tk0 hs78
    refine ret_of (.bool false) (by kernel_rfl) ⟨_, ⟨rfl, rfl⟩, hs272⟩
  ·
   have h82p : ¬ (r44.2.1 = 0) := of_decide_eq_false (bnot_true h82)
   replace hm := ite_no hm h82p
   refine zS 74 h82 ?_
   refine zS 72 h82 ?_
   refine zS 73 h82 ?_
   refine zE 31 (hK80 _ _ ?_)
   refine W.cond_true true (by kernel_rfl) rfl ?_
   refine W.sr fun K273 hK273 => ?_
   refine zE 1 (hK273 _ _ ?_)
   refine W.ret (ret_seq ?_)
   obtain rfl := some_inj hm
   have hs274 := St.tk0 hs78
   refine ret_of (.bool false) (by kernel_rfl) ⟨_, ⟨rfl, rfl⟩, hs274⟩
 ·
  have h81p : ¬ (r37.2.1 = 0) := of_decide_eq_false (bnot_true h81)
  replace hm := ite_no hm h81p
  refine zS 70 h81 ?_
  refine zS 69 h81 ?_
  refine zE 35 (hK80 _ _ ?_)
  refine W.cond_true true (by kernel_rfl) rfl ?_
  refine W.sr fun K275 hK275 => ?_
  refine zE 1 (hK275 _ _ ?_)
  refine W.ret (ret_seq ?_)
  obtain rfl := some_inj hm
  have hs276 := St.tk0 hs78
  refine ret_of (.bool false) (by kernel_rfl) ⟨_, ⟨rfl, rfl⟩, hs276⟩

end Go.Proofs.YthimamnblklkbaaDoor

namespace Go.Proofs.YthimamnblklkbaaDoor
open Go Go.RowKit
set_option maxRecDepth 100000 in
set_option maxHeartbeats 4000000 in
theorem works11_eq : works11_M = some true := by decide +kernel
end Go.Proofs.YthimamnblklkbaaDoor

namespace Go.Proofs.YthimamnblklkbaaDoor
open Go Go.RowKit
set_option linter.unusedSimpArgs false
set_option linter.unusedVariables false

structure TRe where
  c0 : Int
  c1 : Int
  c2 : Int
  c3 : ByteArray

def dRe : TRe := (⟨0, 0, 0, .empty⟩ : TRe)
def kRe : Kind TRe := ⟨46, 4, fun x => [.int .i64 x.c0, .int .u64 x.c1, .int .u64 x.c2, .string x.c3], by decide, fun _ => rfl, fun _ => rfl⟩
end Go.Proofs.YthimamnblklkbaaDoor

set_option linter.unusedVariables false
set_option maxRecDepth 20000
set_option maxHeartbeats 2000000
namespace Go.Proofs.YthimamnblklkbaaDoor
open Go Go.RowKit
set_option linter.unusedSimpArgs false
set_option linter.unusedVariables false

def begun11_M (i_ : Int) : Option (List Int) :=
 need ((0 : Int) ≤ 0 ∧ (0 : Int) ≤ 255) <|
need ((0 : Int) ≤ 0 ∧ (0 : Int) ≤ 255) <|
need ((fmtW 1 (2 + 0 % 20) (2 + 0 % 60)).length ≤ 17592186044415) <|
(copen_M (fmtW 1 (2 + 0 % 20) (2 + 0 % 60)) ([]) i_ 1).bind fun r21 =>
if r21.1 = 0 then (if r21.2.1 = 0 then (some (vflat (fmtW 1 (2 + 0 % 20) (2 + 0 % 60)) r21.2.2)) else (some ([]))) else (some ([]))

theorem begun11_walk {i_ : Int}  {r : List Int} (B : Nat) (w : World) (hG2 : 1 < B) (hL : CellsAt (some ⟨1, 0, none⟩) [(.int .i64 1), (.int .i64 2), (.int .i64 2)] w) (hm : begun11_M i_ = some r) : Spec Tryd.prog 89 #[(.int .i64 i_)] B w [] (fun v H' => ∃ a' c', v = .slice a' r.length c' ∧ H' = [kU64.row a' c' r]) := by
 refine spec_Q Tryd.func89 rfl fun hs => ?_
 unfold begun11_M at hm
 refine W.sr fun K1 hK1 => ?_
 refine zE 1 (hK1 _ _ ?_)
 refine W.sr fun K2 hK2 => ?_
 obtain ⟨h3, hm⟩ := need_some hm
 obtain ⟨h4, hm⟩ := need_some hm
 refine zC00 hs (small_spec (x_ := 0) (y_ := 0) (hx := h3) (hy := h4) B _) fun w5 hs7 => ?_
 refine ops_call0 hs7 (by kernel_rfl) (format_spec (gw := 1) (gi := (2 + 0 % 20)) (gb := (2 + 0 % 60)) B _) ?_
 rintro _ _ w10 ⟨a8, c9, rfl, rfl⟩ hs11
 have hs12 := St.ap1 hs11
 obtain ⟨h14, hm⟩ := need_some hm
 refine ops_call0 hs12 (by kernel_rfl) (new_spec (hc := (St.kcells kU64 hs12 0 rfl)) (hn := (St.capnil kU64 hs12 0 rfl)) (hsz := h14) B _) ?_
 rintro _ _ w15 ⟨b13, rfl, rfl⟩ hs16
 have hs17 := St.ap1 hs16
 refine zE 1 (hK2 _ _ ?_)
 refine W.seq fun K18 hK18 => ?_
 refine W.sr fun K19 hK19 => ?_
 refine zE 2 (hK19 _ _ ?_)
 refine W.cond_false false (by kernel_rfl) rfl ?_
 refine W.skip ?_
 refine hK18 _ _ ?_
 refine W.sr fun K20 hK20 => ?_
 refine zR 2 ?_
 obtain ⟨r21, h22, hm⟩ := bind_some hm
 refine zC11 hs17 (copen_walk (vb := b13) (i_ := i_) (g_ := 1) (img := (fmtW 1 (2 + 0 % 20) (2 + 0 % 60))) (l := []) (hG2 := hG2) (hL := (hs17.oldCells hL)) (hm := h22) B _) fun w23 hs25 => ?_
 refine zE 5 (hK20 _ _ ?_)
 refine W.seq fun K26 hK26 => ?_
 refine W.sr fun K27 hK27 => ?_
 refine zR 3 ?_
 rcases Bool.eq_false_or_eq_true (!decide (r21.1 = 0)) with h28 | h28
 rotate_left
 ·
  have h28p : r21.1 = 0 := of_decide_eq_true (bnot_false h28)
  replace hm := ite_yes hm h28p
  refine zS 19 h28 ?_
  refine zS 18 h28 ?_
  refine zE 3 (hK27 _ _ ?_)
  refine W.cond (!decide (r21.2.1 = 0)) (by kernel_rfl) (fun h29 => ?_) (fun h29 => ?_)
  rotate_left
  ·
   have h29p : r21.2.1 = 0 := of_decide_eq_true (bnot_false h29)
   replace hm := ite_yes hm h29p
   refine W.skip ?_
   refine hK26 _ _ ?_
   refine W.sr fun K30 hK30 => ?_
   refine zR 1 ?_
   refine ops_call0 hs25 (by kernel_rfl) (flat_spec (hv := (hs25.entAt 0 rfl viewA_at)) B _) ?_
   rintro _ _ w33 ⟨a31, c32, rfl, rfl⟩ hs34
   have hs35 := St.ap1 hs34
   refine zE 1 (hK30 _ _ ?_)
   refine W.ret ?_
   obtain rfl := some_inj hm
   have hs36 := St.tk1 hs35
   refine ret_of (.slice a31 ((vflat (fmtW 1 (2 + 0 % 20) (2 + 0 % 60)) r21.2.2).length) c32) (by kernel_rfl) ⟨_, ⟨a31, c32, rfl, rfl⟩, hs36⟩
  ·
   have h29p : ¬ (r21.2.1 = 0) := of_decide_eq_false (bnot_true h29)
   replace hm := ite_no hm h29p
   refine W.sr fun K37 hK37 => ?_
   refine zE 1 (hK37 _ _ ?_)
   refine W.ret (ret_seq ?_)
   have hs38 := St.knil kU64 hs25
   obtain rfl := some_inj hm
   have hs39 := St.tk1 hs38
   refine ret_of (.slice none 0 0) (by kernel_rfl) ⟨_, ⟨none, 0, rfl, rfl⟩, hs39⟩
 ·
  have h28p : ¬ (r21.1 = 0) := of_decide_eq_false (bnot_true h28)
  replace hm := ite_no hm h28p
  refine zS 19 h28 ?_
  refine zS 18 h28 ?_
  refine zE 3 (hK27 _ _ ?_)
  refine W.cond_true true (by kernel_rfl) rfl ?_
  refine W.sr fun K40 hK40 => ?_
  refine zE 1 (hK40 _ _ ?_)
  refine W.ret (ret_seq ?_)
  have hs41 := St.knil kU64 hs25
  obtain rfl := some_inj hm
  have hs42 := St.tk1 hs41
  refine ret_of (.slice none 0 0) (by kernel_rfl) ⟨_, ⟨none, 0, rfl, rfl⟩, hs42⟩

end Go.Proofs.YthimamnblklkbaaDoor

set_option linter.unusedVariables false
set_option maxRecDepth 20000
namespace Go.Proofs.YthimamnblklkbaaDoor
open Go Go.RowKit
set_option linter.unusedSimpArgs false
set_option linter.unusedVariables false

def great11_B0 (ss : List TSt11) (k9 : Int → Option (Bool)) (p8 : Int) : Option (Bool) :=
 if p8 < (ss.length : Int) then (need (0 ≤ p8 ∧ p8 < (ss.length : Int)) <|
if ((ss.getD p8.toNat dSt11).c7.size : Int) > 1000 then (some true) else (need (-9223372036854775808 ≤ (p8 + 1) ∧ (p8 + 1) ≤ 9223372036854775807) <|
k9 (p8 + 1))) else (some false)

def great11_M (ss : List TSt11) : Option (Bool) :=
 if (ss.length : Int) > 60 then (some true) else (iter (fun k_ s_ => great11_B0 ss k_ s_) FUEL 0)

theorem great11_walk {ss : List TSt11} {sa : Option Addr} {sc : Nat} {r : Bool} (B : Nat) (w : World) (hst : CellsAt sa (kSt11.cells ss) w) (hm : great11_M ss = some r) : Spec Tryd.prog 66 #[(.slice sa ss.length sc)] B w [] (fun v H' => v = .bool r ∧ H' = []) := by
 refine spec_Q Tryd.func66 rfl fun hs => ?_
 unfold great11_M at hm
 refine W.sr fun K1 hK1 => ?_
 refine zE 1 (hK1 _ _ ?_)
 refine W.seq fun K2 hK2 => ?_
 refine W.sr fun K3 hK3 => ?_
 refine zE 3 (hK3 _ _ ?_)
 refine W.cond (decide ((ss.length : Int) > 60)) (by kernel_rfl) (fun h4 => ?_) (fun h4 => ?_)
 ·
  obtain ⟨h4p, hm⟩ := iY hm h4
  refine W.sr fun K5 hK5 => ?_
  refine zE 1 (hK5 _ _ ?_)
  refine W.ret (ret_seq ?_)
  obtain rfl := some_inj hm
  refine ret_of (.bool true) (by kernel_rfl) ⟨_, ⟨rfl, rfl⟩, hs⟩
 ·
  obtain ⟨h4p, hm⟩ := iN hm h4
  refine W.skip ?_
  refine hK2 _ _ ?_
  refine W.seq fun K6 hK6 => ?_
  refine W.sr fun K7 hK7 => ?_
  refine zE 1 (hK7 _ _ ?_)
  refine W.block ?_
  refine W.loop_iter (G := Int) (σ := Int) (fun | p8 => p8) (fun | p8, s_, w_ => (∃ us, s_ = slots 21 [(0, (.slice sa ss.length sc)), (3, (.int .i64 p8))] us) ∧ St B w [] w_ []) 0 ⟨slots_intro _ (by kernel_rfl), hs⟩ hm ?_
  rintro k9 ih10 p8 _ w11 ⟨⟨us, rfl⟩, hs12⟩ hm
  replace hm : great11_B0 ss k9 p8 = some r := hm
  unfold great11_B0 at hm
  refine W.seq fun K13 hK13 => ?_
  refine W.sr fun K14 hK14 => ?_
  refine zE 4 (hK14 _ _ ?_)
  refine W.cond (decide (p8 < (ss.length : Int))) (by kernel_rfl) (fun h15 => ?_) (fun h15 => ?_)
  ·
   obtain ⟨h15p, hm⟩ := iY hm h15
   refine W.skip ?_
   refine hK13 _ _ ?_
   refine W.seq fun K16 hK16 => ?_
   refine W.block ?_
   refine W.sr fun K17 hK17 => ?_
   refine zR 2 ?_
   obtain ⟨h19, hm⟩ := need_some hm
   have hk18 := lt_toNat h19
   refine ops_R (runs_index (a := sa) (n := ss.length) (z := p8) (size := 9) p8.toNat (nat_of h19.1) hk18 (kSt11.addr (hs12.oldCells hst) hk18) (by kernel_rfl)) ?_
   refine zR 2 ?_
   refine zL ((adr sa (p8.toNat * 9)).add 7) (.string ((ss.getD p8.toNat dSt11).c7)) (kSt11.at (hs12.oldCells hst) hk18 dSt11 7 rfl) ?_
   refine zE 2 (hK17 _ _ ?_)
   refine W.cond (decide (((ss.getD p8.toNat dSt11).c7.size : Int) > 1000)) (by kernel_rfl) (fun h20 => ?_) (fun h20 => ?_)
   ·
    obtain ⟨h20p, hm⟩ := iY hm h20
    refine W.sr fun K21 hK21 => ?_
    refine zE 1 (hK21 _ _ ?_)
    refine W.ret (ret_block (ret_seq (ret_seq (ret_block (ret_seq ?_)))))
    obtain rfl := some_inj hm
    refine ret_of (.bool true) (by kernel_rfl) ⟨_, ⟨rfl, rfl⟩, hs12⟩
   ·
    obtain ⟨h20p, hm⟩ := iN hm h20
    refine W.skip ?_
    refine normal_block ?_
    refine hK16 _ _ ?_
    refine W.region ?_
    refine zR 1 ?_
    obtain ⟨h22, hm⟩ := need_some hm
    refine zI _ (wrap_i64 h22.1 h22.2) ?_
    refine zE 1 ?_
    refine loopAt_next ?_
    exact ih10 (p8 + 1) _ _ ⟨slots_intro _ (by kernel_rfl), hs12⟩ hm
  ·
   obtain ⟨h15p, hm⟩ := iN hm h15
   refine W.exit (exit_seq (exit_seq (exit_here ?_)))
   refine hK6 _ _ ?_
   refine W.sr fun K23 hK23 => ?_
   refine zE 1 (hK23 _ _ ?_)
   refine W.ret ?_
   obtain rfl := some_inj hm
   refine ret_of (.bool false) (by kernel_rfl) ⟨_, ⟨rfl, rfl⟩, hs12⟩

end Go.Proofs.YthimamnblklkbaaDoor

set_option linter.unusedVariables false
set_option maxRecDepth 20000
set_option maxHeartbeats 4000000
namespace Go.Proofs.YthimamnblklkbaaDoor
open Go Go.RowKit
set_option linter.unusedSimpArgs false
set_option linter.unusedVariables false

def classonce_J5 (k55 : ((List Int) × Int × (List TRe) × (List Bool) × Int) → Option (Bool)) (q50 : List Int) (p54 : Int) (q103 : List TRe) (q104 : List Bool) (p108 : Int) (l109 : List (Int × Int)) : Option (Bool) :=
 if (((vflat q50 l109).length) : Int) = (q50.length : Int) then (need (-9223372036854775808 ≤ (p54 + 1) ∧ (p54 + 1) ≤ 9223372036854775807) <|
k55 ((vflat q50 l109), p108, q103, q104, (p54 + 1))) else (some false)

def classonce_J6 (i_ : Int) (k55 : ((List Int) × Int × (List TRe) × (List Bool) × Int) → Option (Bool)) (q50 : List Int) (p54 : Int) (r75 : Int) (q103 : List TRe) (q104 : List Bool) (l105 : List (Int × Int)) (p131 : Int) : Option (Bool) :=
 (cack_M q50 l105 (i_.tmod 4) 1 r75).bind fun r135 =>
if r135.2.1 = 0 then (if r135.1 = p131 then (classonce_J5 k55 q50 p54 q103 q104 p131 r135.2.2) else (some false)) else (some false)

def classonce_B1 (i_ : Int) (k55 : ((List Int) × Int × (List TRe) × (List Bool) × Int) → Option (Bool)) (q50 : List Int) (p54 : Int) (r75 : Int) (q103 : List TRe) (q104 : List Bool) (l105 : List (Int × Int)) (k156 : Int → Option (Bool)) (p155 : Int) : Option (Bool) :=
 if p155 < r75 then (need (0 ≤ ((p155 + 1) % 18446744073709551616) ∧ ((p155 + 1) % 18446744073709551616) < 80) <|
need (q104.length = 80) <|
if (q104.getD (((p155 + 1) % 18446744073709551616).toNat) false) = true then ((some ((p155 + 1) % 18446744073709551616)).bind fun r174 =>
k156 r174) else (classonce_J6 i_ k55 q50 p54 r75 q103 q104 l105 p155)) else (classonce_J6 i_ k55 q50 p54 r75 q103 q104 l105 p155)

def classonce_J4 (i_ : Int) (ss : List TSt11) (k55 : ((List Int) × Int × (List TRe) × (List Bool) × Int) → Option (Bool)) (q50 : List Int) (p51 : Int) (p54 : Int) (r75 : Int) (q103 : List TRe) (q104 : List Bool) (l105 : List (Int × Int)) : Option (Bool) :=
 if ((ss.getD p54.toNat dSt11).c0).tmod 2 = 1 then (iter (fun k_ s_ => classonce_B1 i_ k55 q50 p54 r75 q103 q104 l105 k_ s_) FUEL p51) else (classonce_J5 k55 q50 p54 q103 q104 p51 l105)

def classonce_J8 (i_ : Int) (ss : List TSt11) (k55 : ((List Int) × Int × (List TRe) × (List Bool) × Int) → Option (Bool)) (q50 : List Int) (p51 : Int) (q52 : List TRe) (q53 : List Bool) (p54 : Int) (r75 : Int) (p182 : Bool) : Option (Bool) :=
 if p182 = true then (need (-9223372036854775808 ≤ (r75.tmod 4) ∧ (r75.tmod 4) ≤ 9223372036854775807) <|
(ssave_M q50 ([]) (i_.tmod 4) (r75.tmod 4) r75 ((ss.getD p54.toNat dSt11).c4) ((ss.getD p54.toNat dSt11).c5) ((ss.getD p54.toNat dSt11).c6) ((ss.getD p54.toNat dSt11).c7)).bind fun r189 =>
if r189.1 = 0 then (need (0 ≤ r75 ∧ r75 < 80) <|
need (q53.length = 80) <|
need (0 ≤ r75 ∧ r75 < 80) <|
need (q52.length = 80) <|
classonce_J4 i_ ss k55 q50 p51 p54 r75 (q52.set r75.toNat (⟨(ss.getD p54.toNat dSt11).c4, (ss.getD p54.toNat dSt11).c5, (ss.getD p54.toNat dSt11).c6, (ss.getD p54.toNat dSt11).c7⟩ : TRe)) (q53.set r75.toNat true) r189.2) else (some false)) else (classonce_J4 i_ ss k55 q50 p51 p54 r75 q52 q53 ([]))

def classonce_J3 (i_ : Int) (ss : List TSt11) (k55 : ((List Int) × Int × (List TRe) × (List Bool) × Int) → Option (Bool)) (q50 : List Int) (p51 : Int) (q52 : List TRe) (q53 : List Bool) (p54 : Int) (r75 : Int) (r86 : Int × Int × Int × Int × ByteArray × Int) : Option (Bool) :=
 if ((ss.getD p54.toNat dSt11).c0).tmod 2 = 0 then (if r86.1 = 0 then ((smay10_M ((ss.getD p54.toNat dSt11).c4) ((ss.getD p54.toNat dSt11).c7)).bind fun r221 =>
classonce_J8 i_ ss k55 q50 p51 q52 q53 p54 r75 r221) else (classonce_J8 i_ ss k55 q50 p51 q52 q53 p54 r75 false)) else (classonce_J8 i_ ss k55 q50 p51 q52 q53 p54 r75 false)

def classonce_J2 (i_ : Int) (ss : List TSt11) (k55 : ((List Int) × Int × (List TRe) × (List Bool) × Int) → Option (Bool)) (q50 : List Int) (p51 : Int) (q52 : List TRe) (q53 : List Bool) (p54 : Int) (r75 : Int) (r86 : Int × Int × Int × Int × ByteArray × Int) (p98 : Int) : Option (Bool) :=
 if r86.2.2.2.2.2 = 0 then (if r86.1 = p98 then (if r86.1 = 1 then (need (0 ≤ r75 ∧ r75 < 80) <|
need (q52.length = 80) <|
if r86.2.1 = (q52.getD r75.toNat dRe).c0 ∧ r86.2.2.1 = (q52.getD r75.toNat dRe).c1 ∧ r86.2.2.2.1 = (q52.getD r75.toNat dRe).c2 ∧ r86.2.2.2.2.1 = ((q52.getD r75.toNat dRe).c3) then (if r86.1 = 1 then (classonce_J3 i_ ss k55 q50 p51 q52 q53 p54 r75 r86) else (if r86.2.1 = 0 ∧ r86.2.2.1 = 0 ∧ r86.2.2.2.1 = 0 ∧ r86.2.2.2.2.1 = ByteArray.empty then (classonce_J3 i_ ss k55 q50 p51 q52 q53 p54 r75 r86) else (some false))) else (some false)) else (if r86.1 = 1 then (classonce_J3 i_ ss k55 q50 p51 q52 q53 p54 r75 r86) else (if r86.2.1 = 0 ∧ r86.2.2.1 = 0 ∧ r86.2.2.2.1 = 0 ∧ r86.2.2.2.2.1 = ByteArray.empty then (classonce_J3 i_ ss k55 q50 p51 q52 q53 p54 r75 r86) else (some false)))) else (some false)) else (some false)

def classonce_B0 (i_ : Int) (ss : List TSt11) (k55 : ((List Int) × Int × (List TRe) × (List Bool) × Int) → Option (Bool)) (q50 : List Int) (p51 : Int) (q52 : List TRe) (q53 : List Bool) (p54 : Int) : Option (Bool) :=
 if p54 < (ss.length : Int) then (need (0 ≤ p54 ∧ p54 < (ss.length : Int)) <|
(some ((1 + ((ss.getD p54.toNat dSt11).c3).tmod 70) % 18446744073709551616)).bind fun r75 =>
need (q50.length ≤ 17592186044415) <|
(cof_M q50 ([]) (i_.tmod 4) 1 r75).bind fun r86 =>
if r75 ≤ p51 then (classonce_J2 i_ ss k55 q50 p51 q52 q53 p54 r75 r86 2) else (if r75 > ((p51 + 4) % 18446744073709551616) then (classonce_J2 i_ ss k55 q50 p51 q52 q53 p54 r75 r86 3) else (need (0 ≤ r75 ∧ r75 < 80) <|
need (q53.length = 80) <|
if (q53.getD r75.toNat false) = true then (classonce_J2 i_ ss k55 q50 p51 q52 q53 p54 r75 r86 1) else (classonce_J2 i_ ss k55 q50 p51 q52 q53 p54 r75 r86 0)))) else ((works11_M).bind fun r281 =>
some r281)

def classonce_M (i_ : Int) (ss : List TSt11) : Option (Bool) :=
 (great11_M ss).bind fun r4 =>
if r4 = true then ((works11_M).bind fun r11 =>
some r11) else (need (-9223372036854775808 ≤ i_ ∧ i_ ≤ 9223372036854775807) <|
(begun11_M (i_.tmod 4)).bind fun r21 =>
if (r21.length : Int) = 0 then (some false) else (iter (fun k_ s_ => classonce_B0 i_ ss k_ s_.1 s_.2.1 s_.2.2.1 s_.2.2.2.1 s_.2.2.2.2) FUEL (r21, 0, (List.replicate 80 dRe), (List.replicate 80 false), 0)))

theorem classonce_walk {i_ : Int} {ss : List TSt11} {sa : Option Addr} {sc : Nat}  (B : Nat) (w : World) (hB : w.heap.size = B) (hL : CellsAt (some ⟨1, 0, none⟩) [(.int .i64 1), (.int .i64 2), (.int .i64 2)] w) (hst : CellsAt sa (kSt11.cells ss) w) (hm : classonce_M i_ ss = some true) : Spec Tryd.prog 20 #[(.int .u8 i_), (.slice sa ss.length sc)] B w [] (fun v H' => v = .bool true ∧ H' = []) := by
 refine spec_Q Tryd.func20 rfl fun hs => ?_
 unfold classonce_M at hm
 have hG2 : 1 < B := by rw [← hB]; exact lt_of_cells hL (v := .int .i64 1) rfl
 refine W.sr fun K1 hK1 => ?_
 refine zE 1 (hK1 _ _ ?_)
 refine W.seq fun K2 hK2 => ?_
 refine W.sr fun K3 hK3 => ?_
 refine zR 1 ?_
 obtain ⟨r4, h5, hm⟩ := bind_some hm
 refine zC00 hs (great11_walk (sc := sc) (hst := (hs.oldCells hst)) (hm := h5) B _) fun w6 hs8 => ?_
 refine zD (hK3 _ _ ?_)
 refine W.cond r4 (by kernel_rfl) (fun h9 => ?_) (fun h9 => ?_)
 ·
  have h9p : r4 = true := h9
  replace hm := ite_yes hm h9p
  refine W.sr fun K10 hK10 => ?_
  obtain ⟨r11, h12, hm⟩ := bind_some hm
  refine zC00 hs8 (works11_walk (hG2 := hG2) (hL := (hs8.oldCells hL)) (hm := h12) B _) fun w13 hs15 => ?_
  refine zE 1 (hK10 _ _ ?_)
  refine W.ret (ret_seq ?_)
  refine ret_of (.bool r11) (by kernel_rfl) ⟨_, ⟨congrArg Value.bool (some_inj hm), rfl⟩, hs15⟩
 ·
  have h9p : ¬ (r4 = true) := ne_true_of_eq_false h9
  replace hm := ite_no hm h9p
  refine W.skip ?_
  refine hK2 _ _ ?_
  refine W.sr fun K16 hK16 => ?_
  refine zR 1 ?_
  obtain ⟨h17, hm⟩ := need_some hm
  refine zI _ (wrap_i64 h17.1 h17.2) ?_
  refine zE 2 (hK16 _ _ ?_)
  refine W.sr fun K18 hK18 => ?_
  refine zR 1 ?_
  obtain ⟨r21, h22, hm⟩ := bind_some hm
  refine ops_call0 hs8 (by kernel_rfl) (begun11_walk (hG2 := hG2) (hL := (hs8.oldCells hL)) (hm := h22) B _) ?_
  rintro _ _ w23 ⟨a19, c20, rfl, rfl⟩ hs24
  have hs25 := St.ap1 hs24
  refine zE 1 (hK18 _ _ ?_)
  refine W.seq fun K26 hK26 => ?_
  refine W.sr fun K27 hK27 => ?_
  refine zE 3 (hK27 _ _ ?_)
  refine W.cond (decide ((r21.length : Int) = 0)) (by kernel_rfl) (fun h28 => ?_) (fun h28 => ?_)
  ·
   obtain ⟨h28p, hm⟩ := iY hm h28
   refine W.sr fun K29 hK29 => ?_
   refine zE 1 (hK29 _ _ ?_)
   refine W.ret (ret_seq ?_)
   have hs30 := St.tk0 hs25
   refine ret_of (.bool false) (by kernel_rfl) ⟨_, ⟨congrArg Value.bool (some_inj hm), rfl⟩, hs30⟩
  ·
   obtain ⟨h28p, hm⟩ := iN hm h28
   refine W.skip ?_
   refine hK26 _ _ ?_
   refine W.sr fun K31 hK31 => ?_
   refine zE 1 (hK31 _ _ ?_)
   refine W.sr fun K32 hK32 => ?_
   refine ops_new (fun b => .pointer (some ⟨b, 0, none⟩)) (.cells (kRe.cells (List.replicate 80 dRe)).toArray 147 (0, 0)) hs25 (by kernel_rfl) (fun b38 w36 hs37 => ?_)
   refine zD (hK32 _ _ ?_)
   refine W.sr fun K39 hK39 => ?_
   refine ops_new (fun b => .pointer (some ⟨b, 0, none⟩)) (.cells (kBool.cells (List.replicate 80 false)).toArray 148 (0, 0)) hs37 (by kernel_rfl) (fun b45 w43 hs44 => ?_)
   refine zD (hK39 _ _ ?_)
   refine W.seq fun K46 hK46 => ?_
   refine W.sr fun K47 hK47 => ?_
   refine zE 1 (hK47 _ _ ?_)
   refine W.block ?_
   have hs59 := St.f1 hs44
   have hs60 := St.f2 hs59
   refine W.loop_iter (G := (List Int) × Int × (List TRe) × (List Bool) × Int × (Option Addr) × Nat) (σ := (List Int) × Int × (List TRe) × (List Bool) × Int) (fun | (q50, p51, q52, q53, p54, m48, m49) => (q50, p51, q52, q53, p54)) (fun | (q50, p51, q52, q53, p54, m48, m49), s_, w_ => (∃ us, s_ = slots 168 [(1, (.slice sa ss.length sc)), (5, (.int .i64 (i_.tmod 4))), (6, (.slice m48 q50.length m49)), (7, (.int .u64 p51)), (8, (.pointer (some ⟨b38, 0, none⟩))), (9, (.pointer (some ⟨b45, 0, none⟩))), (10, (.int .i64 p54))] us) ∧ St B w [] w_ [kU64.row m48 m49 q50, blk b38 (.cells (kRe.cells q52).toArray 147 (0, 0)), blk b45 (.cells (kBool.cells q53).toArray 148 (0, 0))]) (r21, 0, (List.replicate 80 dRe), (List.replicate 80 false), 0, a19, c20) ⟨slots_intro _ (by kernel_rfl), hs60⟩ hm ?_
   rintro k55 ih56 ⟨q50, p51, q52, q53, p54, m48, m49⟩ _ w57 ⟨⟨us, rfl⟩, hs58⟩ hm
   replace hm : classonce_B0 i_ ss k55 q50 p51 q52 q53 p54 = some true := hm
   unfold classonce_B0 at hm
   refine W.seq fun K61 hK61 => ?_
   refine W.sr fun K62 hK62 => ?_
   refine zE 4 (hK62 _ _ ?_)
   refine W.cond (decide (p54 < (ss.length : Int))) (by kernel_rfl) (fun h63 => ?_) (fun h63 => ?_)
   ·
    obtain ⟨h63p, hm⟩ := iY hm h63
    refine W.skip ?_
    refine hK61 _ _ ?_
    refine W.seq fun K64 hK64 => ?_
    refine W.block ?_
    refine W.sr fun K65 hK65 => ?_
    refine zR 2 ?_
    obtain ⟨h67, hm⟩ := need_some hm
    have hk66 := lt_toNat h67
    refine ops_R (runs_index (a := sa) (n := ss.length) (z := p54) (size := 9) p54.toNat (nat_of h67.1) hk66 (kSt11.addr (hs58.oldCells hst) hk66) (by kernel_rfl)) ?_
    refine ops_R (runs_loadAgg (cs := [(.int .u8 ((ss.getD p54.toNat dSt11).c0)), (.int .i64 ((ss.getD p54.toNat dSt11).c1)), (.int .u64 ((ss.getD p54.toNat dSt11).c2)), (.int .u64 ((ss.getD p54.toNat dSt11).c3)), (.int .i64 ((ss.getD p54.toNat dSt11).c4)), (.int .u64 ((ss.getD p54.toNat dSt11).c5)), (.int .u64 ((ss.getD p54.toNat dSt11).c6)), (.string ((ss.getD p54.toNat dSt11).c7)), (.bool ((ss.getD p54.toNat dSt11).c8))]) (by kernel_rfl) (kSt11.all (hs58.oldCells hst) hk66 dSt11 0 rfl)) ?_
    refine zN [(.int .u8 0), (.int .i64 0), (.int .u64 0), (.int .u64 0), (.int .i64 0), (.int .u64 0), (.int .u64 0), (.string ByteArray.empty), (.bool false)] 110 hs58 fun b70 w68 hs69 => ?_
    refine ops_store (off := 0) (cs := [(.int .u8 0), (.int .i64 0), (.int .u64 0), (.int .u64 0), (.int .i64 0), (.int .u64 0), (.int .u64 0), (.string ByteArray.empty), (.bool false)]) (vs := [(.int .u8 ((ss.getD p54.toNat dSt11).c0)), (.int .i64 ((ss.getD p54.toNat dSt11).c1)), (.int .u64 ((ss.getD p54.toNat dSt11).c2)), (.int .u64 ((ss.getD p54.toNat dSt11).c3)), (.int .i64 ((ss.getD p54.toNat dSt11).c4)), (.int .u64 ((ss.getD p54.toNat dSt11).c5)), (.int .u64 ((ss.getD p54.toNat dSt11).c6)), (.string ((ss.getD p54.toNat dSt11).c7)), (.bool ((ss.getD p54.toNat dSt11).c8))]) hs69 (by kernel_rfl) (by simp) rfl (fun w71 hs72 => ?_)
    have hs73 : St B w [] w71 [blk b70 (.cells [(.int .u8 ((ss.getD p54.toNat dSt11).c0)), (.int .i64 ((ss.getD p54.toNat dSt11).c1)), (.int .u64 ((ss.getD p54.toNat dSt11).c2)), (.int .u64 ((ss.getD p54.toNat dSt11).c3)), (.int .i64 ((ss.getD p54.toNat dSt11).c4)), (.int .u64 ((ss.getD p54.toNat dSt11).c5)), (.int .u64 ((ss.getD p54.toNat dSt11).c6)), (.string ((ss.getD p54.toNat dSt11).c7)), (.bool ((ss.getD p54.toNat dSt11).c8))].toArray 110 (0, 0)), kU64.row m48 m49 q50, blk b38 (.cells (kRe.cells q52).toArray 147 (0, 0)), blk b45 (.cells (kBool.cells q53).toArray 148 (0, 0))] := hs72
    refine zD (hK65 _ _ ?_)
    refine W.sr fun K74 hK74 => ?_
    refine zR 1 ?_
    refine zL ⟨b70, 3, none⟩ (.int .u64 ((ss.getD p54.toNat dSt11).c3)) (hs73.cellAt 0 rfl rfl) ?_
    refine zR 1 ?_
    refine ops_val (v := .int .u64 (IntKind.u64.wrap (1 + ((ss.getD p54.toNat dSt11).c3).tmod 70))) (v' := .int .u64 ((1 + ((ss.getD p54.toNat dSt11).c3).tmod 70) % 18446744073709551616)) (by kernel_rfl) (congrArg (Value.int .u64) (wrap_u64_mod _)) ?_
    refine zR 1 ?_
    obtain ⟨r75, h76, hm⟩ := bind_some hm
    replace h76 := some_inj h76
    refine ops_set 12 (v := .int .u64 r75) (Eq.trans (by kernel_rfl) (congrArg (Value.int .u64) h76)) ?_
    refine zD (hK74 _ _ ?_)
    refine W.sr fun K77 hK77 => ?_
    refine zR 1 ?_
    obtain ⟨h79, hm⟩ := need_some hm
    refine ops_call0 hs73 (by kernel_rfl) (new_spec (hc := (St.kcells kU64 hs73 1 rfl)) (hn := (St.capnil kU64 hs73 1 rfl)) (hsz := h79) B _) ?_
    rintro _ _ w80 ⟨b78, rfl, rfl⟩ hs81
    have hs82 := St.ap1 hs81
    refine zE 1 (hK77 _ _ ?_)
    refine W.seq fun K83 hK83 => ?_
    refine W.sr fun K84 hK84 => ?_
    refine zE 2 (hK84 _ _ ?_)
    refine W.cond_false false (by kernel_rfl) rfl ?_
    refine W.skip ?_
    refine hK83 _ _ ?_
    refine W.sr fun K85 hK85 => ?_
    refine zR 3 ?_
    obtain ⟨r86, h87, hm⟩ := bind_some hm
    refine zC00 hs82 (cof_walk (i_ := i_.tmod 4) (g_ := 1) (q_ := r75) (img := q50) (l := []) (hL := (hs82.oldCells hL)) (hv := (hs82.entAt 0 rfl viewA_at)) (hm := h87) B _) fun w88 hs90 => ?_
    refine zR 4 ?_
    refine zN [(.int .i64 0), (.int .u64 0), (.int .u64 0), (.string ByteArray.empty)] 46 hs90 fun b93 w91 hs92 => ?_
    refine zR 1 ?_
    refine ops_store (off := 0) (cs := [(.int .i64 0), (.int .u64 0), (.int .u64 0), (.string ByteArray.empty)]) (vs := [(.int .i64 r86.2.1), (.int .u64 r86.2.2.1), (.int .u64 r86.2.2.2.1), (.string r86.2.2.2.2.1)]) hs92 (by kernel_rfl) (by simp) rfl (fun w94 hs95 => ?_)
    have hs96 : St B w [] w94 [blk b93 (.cells [(.int .i64 r86.2.1), (.int .u64 r86.2.2.1), (.int .u64 r86.2.2.2.1), (.string r86.2.2.2.2.1)].toArray 46 (0, 0)), viewA (ptr b78) q50 ([]), blk b70 (.cells [(.int .u8 ((ss.getD p54.toNat dSt11).c0)), (.int .i64 ((ss.getD p54.toNat dSt11).c1)), (.int .u64 ((ss.getD p54.toNat dSt11).c2)), (.int .u64 ((ss.getD p54.toNat dSt11).c3)), (.int .i64 ((ss.getD p54.toNat dSt11).c4)), (.int .u64 ((ss.getD p54.toNat dSt11).c5)), (.int .u64 ((ss.getD p54.toNat dSt11).c6)), (.string ((ss.getD p54.toNat dSt11).c7)), (.bool ((ss.getD p54.toNat dSt11).c8))].toArray 110 (0, 0)), kU64.row m48 m49 q50, blk b38 (.cells (kRe.cells q52).toArray 147 (0, 0)), blk b45 (.cells (kBool.cells q53).toArray 148 (0, 0))] := hs95
    refine zE 1 (hK85 _ _ ?_)
    refine W.sr fun K97 hK97 => ?_
    refine zE 1 (hK97 _ _ ?_)
    refine W.seq_join (fun s_ w_ => ∃ (p98 : Int), (∃ us, s_ = slots 168 [(1, (.slice sa ss.length sc)), (5, (.int .i64 (i_.tmod 4))), (6, (.slice m48 q50.length m49)), (7, (.int .u64 p51)), (8, (.pointer (some ⟨b38, 0, none⟩))), (9, (.pointer (some ⟨b45, 0, none⟩))), (10, (.int .i64 p54)), (11, (.pointer (some ⟨b70, 0, none⟩))), (12, (.int .u64 r75)), (13, (.pointer (some ⟨b78, 0, none⟩))), (14, (.int .u8 r86.1)), (15, (.pointer (some ⟨b93, 0, none⟩))), (16, (.int .i64 r86.2.2.2.2.2)), (17, (.int .u8 p98))] us) ∧ St B w [] w_ [kU64.row m48 m49 q50, blk b38 (.cells (kRe.cells q52).toArray 147 (0, 0)), blk b45 (.cells (kBool.cells q53).toArray 148 (0, 0)), blk b70 (.cells [(.int .u8 ((ss.getD p54.toNat dSt11).c0)), (.int .i64 ((ss.getD p54.toNat dSt11).c1)), (.int .u64 ((ss.getD p54.toNat dSt11).c2)), (.int .u64 ((ss.getD p54.toNat dSt11).c3)), (.int .i64 ((ss.getD p54.toNat dSt11).c4)), (.int .u64 ((ss.getD p54.toNat dSt11).c5)), (.int .u64 ((ss.getD p54.toNat dSt11).c6)), (.string ((ss.getD p54.toNat dSt11).c7)), (.bool ((ss.getD p54.toNat dSt11).c8))].toArray 110 (0, 0)), viewA (ptr b78) q50 ([]), blk b93 (.cells [(.int .i64 r86.2.1), (.int .u64 r86.2.2.1), (.int .u64 r86.2.2.2.1), (.string r86.2.2.2.2.1)].toArray 46 (0, 0))] ∧ classonce_J2 i_ ss k55 q50 p51 q52 q53 p54 r75 r86 p98 = some true) ?_ ?_
    ·
     rintro _ w99 ⟨p98, ⟨us, rfl⟩, hs100, hm⟩
     unfold classonce_J2 at hm
     refine W.seq_join (fun s_ w_ => (∃ us, s_ = slots 168 [(1, (.slice sa ss.length sc)), (5, (.int .i64 (i_.tmod 4))), (6, (.slice m48 q50.length m49)), (7, (.int .u64 p51)), (8, (.pointer (some ⟨b38, 0, none⟩))), (9, (.pointer (some ⟨b45, 0, none⟩))), (10, (.int .i64 p54)), (11, (.pointer (some ⟨b70, 0, none⟩))), (12, (.int .u64 r75)), (13, (.pointer (some ⟨b78, 0, none⟩))), (14, (.int .u8 r86.1))] us) ∧ St B w [] w_ [kU64.row m48 m49 q50, blk b38 (.cells (kRe.cells q52).toArray 147 (0, 0)), blk b45 (.cells (kBool.cells q53).toArray 148 (0, 0)), blk b70 (.cells [(.int .u8 ((ss.getD p54.toNat dSt11).c0)), (.int .i64 ((ss.getD p54.toNat dSt11).c1)), (.int .u64 ((ss.getD p54.toNat dSt11).c2)), (.int .u64 ((ss.getD p54.toNat dSt11).c3)), (.int .i64 ((ss.getD p54.toNat dSt11).c4)), (.int .u64 ((ss.getD p54.toNat dSt11).c5)), (.int .u64 ((ss.getD p54.toNat dSt11).c6)), (.string ((ss.getD p54.toNat dSt11).c7)), (.bool ((ss.getD p54.toNat dSt11).c8))].toArray 110 (0, 0)), viewA (ptr b78) q50 ([]), blk b93 (.cells [(.int .i64 r86.2.1), (.int .u64 r86.2.2.1), (.int .u64 r86.2.2.2.1), (.string r86.2.2.2.2.1)].toArray 46 (0, 0))] ∧ classonce_J3 i_ ss k55 q50 p51 q52 q53 p54 r75 r86 = some true) ?_ ?_
     ·
      rintro _ w101 ⟨⟨us, rfl⟩, hs102, hm⟩
      unfold classonce_J3 at hm
      refine W.seq_join (fun s_ w_ => ∃ (q103 : List TRe) (q104 : List Bool) (l105 : List (Int × Int)), (∃ us, s_ = slots 168 [(1, (.slice sa ss.length sc)), (5, (.int .i64 (i_.tmod 4))), (6, (.slice m48 q50.length m49)), (7, (.int .u64 p51)), (8, (.pointer (some ⟨b38, 0, none⟩))), (9, (.pointer (some ⟨b45, 0, none⟩))), (10, (.int .i64 p54)), (11, (.pointer (some ⟨b70, 0, none⟩))), (12, (.int .u64 r75)), (13, (.pointer (some ⟨b78, 0, none⟩)))] us) ∧ St B w [] w_ [kU64.row m48 m49 q50, blk b38 (.cells (kRe.cells q103).toArray 147 (0, 0)), blk b45 (.cells (kBool.cells q104).toArray 148 (0, 0)), blk b70 (.cells [(.int .u8 ((ss.getD p54.toNat dSt11).c0)), (.int .i64 ((ss.getD p54.toNat dSt11).c1)), (.int .u64 ((ss.getD p54.toNat dSt11).c2)), (.int .u64 ((ss.getD p54.toNat dSt11).c3)), (.int .i64 ((ss.getD p54.toNat dSt11).c4)), (.int .u64 ((ss.getD p54.toNat dSt11).c5)), (.int .u64 ((ss.getD p54.toNat dSt11).c6)), (.string ((ss.getD p54.toNat dSt11).c7)), (.bool ((ss.getD p54.toNat dSt11).c8))].toArray 110 (0, 0)), viewA (ptr b78) q50 l105, blk b93 (.cells [(.int .i64 r86.2.1), (.int .u64 r86.2.2.1), (.int .u64 r86.2.2.2.1), (.string r86.2.2.2.2.1)].toArray 46 (0, 0))] ∧ classonce_J4 i_ ss k55 q50 p51 p54 r75 q103 q104 l105 = some true) ?_ ?_
      ·
       rintro _ w106 ⟨q103, q104, l105, ⟨us, rfl⟩, hs107, hm⟩
       unfold classonce_J4 at hm
       refine W.seq_join (fun s_ w_ => ∃ (p108 : Int) (l109 : List (Int × Int)), (∃ us, s_ = slots 168 [(1, (.slice sa ss.length sc)), (5, (.int .i64 (i_.tmod 4))), (6, (.slice m48 q50.length m49)), (7, (.int .u64 p108)), (8, (.pointer (some ⟨b38, 0, none⟩))), (9, (.pointer (some ⟨b45, 0, none⟩))), (10, (.int .i64 p54)), (13, (.pointer (some ⟨b78, 0, none⟩)))] us) ∧ St B w [] w_ [kU64.row m48 m49 q50, blk b38 (.cells (kRe.cells q103).toArray 147 (0, 0)), blk b45 (.cells (kBool.cells q104).toArray 148 (0, 0)), viewA (ptr b78) q50 l109, blk b70 (.cells [(.int .u8 ((ss.getD p54.toNat dSt11).c0)), (.int .i64 ((ss.getD p54.toNat dSt11).c1)), (.int .u64 ((ss.getD p54.toNat dSt11).c2)), (.int .u64 ((ss.getD p54.toNat dSt11).c3)), (.int .i64 ((ss.getD p54.toNat dSt11).c4)), (.int .u64 ((ss.getD p54.toNat dSt11).c5)), (.int .u64 ((ss.getD p54.toNat dSt11).c6)), (.string ((ss.getD p54.toNat dSt11).c7)), (.bool ((ss.getD p54.toNat dSt11).c8))].toArray 110 (0, 0)), blk b93 (.cells [(.int .i64 r86.2.1), (.int .u64 r86.2.2.1), (.int .u64 r86.2.2.2.1), (.string r86.2.2.2.2.1)].toArray 46 (0, 0))] ∧ classonce_J5 k55 q50 p54 q103 q104 p108 l109 = some true) ?_ ?_
       ·
        rintro _ w110 ⟨p108, l109, ⟨us, rfl⟩, hs111, hm⟩
        unfold classonce_J5 at hm
        refine W.sr fun K112 hK112 => ?_
        refine zR 1 ?_
        refine ops_call0 hs111 (by kernel_rfl) (flat_spec (hv := (hs111.entAt 3 rfl viewA_at)) B _) ?_
        rintro _ _ w115 ⟨a113, c114, rfl, rfl⟩ hs116
        have hs117 := St.ap1 hs116
        refine zE 1 (hK112 _ _ ?_)
        refine W.seq fun K118 hK118 => ?_
        refine W.sr fun K119 hK119 => ?_
        refine zE 5 (hK119 _ _ ?_)
        refine W.cond (!decide ((((vflat q50 l109).length) : Int) = (q50.length : Int))) (by kernel_rfl) (fun h120 => ?_) (fun h120 => ?_)
        rotate_left
        ·
         have h120p : (((vflat q50 l109).length) : Int) = (q50.length : Int) := of_decide_eq_true (bnot_false h120)
         replace hm := ite_yes hm h120p
         refine W.skip ?_
         refine hK118 _ _ ?_
         refine W.region ?_
         refine zE 2 ?_
         refine normal_block ?_
         refine hK64 _ _ ?_
         refine W.region ?_
         refine zR 1 ?_
         obtain ⟨h121, hm⟩ := need_some hm
         refine zI _ (wrap_i64 h121.1 h121.2) ?_
         refine zE 1 ?_
         have hs122 := St.f3 hs117
         have hs123 := St.f3 hs122
         have hs124 := St.f2 hs123
         have hs125 := St.tk3 hs124
         refine loopAt_next ?_
         exact ih56 ((vflat q50 l109), p108, q103, q104, (p54 + 1), a113, c114) _ _ ⟨slots_intro _ (by kernel_rfl), hs125⟩ hm
        ·
         have h120p : ¬ ((((vflat q50 l109).length) : Int) = (q50.length : Int)) := of_decide_eq_false (bnot_true h120)
         replace hm := ite_no hm h120p
         refine W.sr fun K126 hK126 => ?_
         refine zE 1 (hK126 _ _ ?_)
         refine W.ret (ret_seq (ret_block (ret_seq (ret_seq (ret_block (ret_seq ?_))))))
         have hs127 := St.tk0 hs117
         refine ret_of (.bool false) (by kernel_rfl) ⟨_, ⟨congrArg Value.bool (some_inj hm), rfl⟩, hs127⟩
       ·
        refine W.sr fun K128 hK128 => ?_
        refine zR 1 ?_
        refine zL ⟨b70, 0, none⟩ (.int .u8 ((ss.getD p54.toNat dSt11).c0)) (hs107.cellAt 3 rfl rfl) ?_
        refine zE 2 (hK128 _ _ ?_)
        refine W.cond (decide (((ss.getD p54.toNat dSt11).c0).tmod 2 = 1)) (by kernel_rfl) (fun h129 => ?_) (fun h129 => ?_)
        ·
         obtain ⟨h129p, hm⟩ := iY hm h129
         refine W.sr fun K130 hK130 => ?_
         refine zE 2 (hK130 _ _ ?_)
         refine W.seq_join (fun s_ w_ => ∃ (p131 : Int), (∃ us, s_ = slots 168 [(1, (.slice sa ss.length sc)), (5, (.int .i64 (i_.tmod 4))), (6, (.slice m48 q50.length m49)), (8, (.pointer (some ⟨b38, 0, none⟩))), (9, (.pointer (some ⟨b45, 0, none⟩))), (10, (.int .i64 p54)), (12, (.int .u64 r75)), (13, (.pointer (some ⟨b78, 0, none⟩))), (18, (.int .u64 p131))] us) ∧ St B w [] w_ [kU64.row m48 m49 q50, blk b38 (.cells (kRe.cells q103).toArray 147 (0, 0)), blk b45 (.cells (kBool.cells q104).toArray 148 (0, 0)), viewA (ptr b78) q50 l105, blk b70 (.cells [(.int .u8 ((ss.getD p54.toNat dSt11).c0)), (.int .i64 ((ss.getD p54.toNat dSt11).c1)), (.int .u64 ((ss.getD p54.toNat dSt11).c2)), (.int .u64 ((ss.getD p54.toNat dSt11).c3)), (.int .i64 ((ss.getD p54.toNat dSt11).c4)), (.int .u64 ((ss.getD p54.toNat dSt11).c5)), (.int .u64 ((ss.getD p54.toNat dSt11).c6)), (.string ((ss.getD p54.toNat dSt11).c7)), (.bool ((ss.getD p54.toNat dSt11).c8))].toArray 110 (0, 0)), blk b93 (.cells [(.int .i64 r86.2.1), (.int .u64 r86.2.2.1), (.int .u64 r86.2.2.2.1), (.string r86.2.2.2.2.1)].toArray 46 (0, 0))] ∧ classonce_J6 i_ k55 q50 p54 r75 q103 q104 l105 p131 = some true) ?_ ?_
         ·
          rintro _ w132 ⟨p131, ⟨us, rfl⟩, hs133, hm⟩
          unfold classonce_J6 at hm
          refine W.sr fun K134 hK134 => ?_
          refine zR 3 ?_
          obtain ⟨r135, h136, hm⟩ := bind_some hm
          have hs137 := St.f3 hs133
          refine zC11 hs137 (cack_walk (vb := b78) (i_ := i_.tmod 4) (g_ := 1) (q_ := r75) (img := q50) (l := l105) (hG2 := hG2) (hL := (hs133.oldCells hL)) (hm := h136) B _) fun w138 hs140 => ?_
          refine zE 5 (hK134 _ _ ?_)
          refine W.seq fun K141 hK141 => ?_
          refine W.sr fun K142 hK142 => ?_
          refine zR 3 ?_
          rcases Bool.eq_false_or_eq_true (!decide (r135.2.1 = 0)) with h143 | h143
          rotate_left
          ·
           have h143p : r135.2.1 = 0 := of_decide_eq_true (bnot_false h143)
           replace hm := ite_yes hm h143p
           refine zS 153 h143 ?_
           refine zS 152 h143 ?_
           refine zE 4 (hK142 _ _ ?_)
           refine W.cond (!decide (r135.1 = p131)) (by kernel_rfl) (fun h144 => ?_) (fun h144 => ?_)
           rotate_left
           ·
            have h144p : r135.1 = p131 := of_decide_eq_true (bnot_false h144)
            replace hm := ite_yes hm h144p
            refine W.skip ?_
            refine hK141 _ _ ?_
            refine W.region ?_
            refine zE 2 ?_
            have hs145 := St.f5 hs140
            have hs146 := St.f5 hs145
            have hs147 := St.f2 hs146
            have hs148 := St.f5 hs147
            have hs149 := St.f5 hs148
            have hs150 := St.f5 hs149
            exact ⟨p131, r135.2.2, slots_intro _ (by kernel_rfl), hs150, hm⟩
           ·
            have h144p : ¬ (r135.1 = p131) := of_decide_eq_false (bnot_true h144)
            replace hm := ite_no hm h144p
            refine W.sr fun K151 hK151 => ?_
            refine zE 1 (hK151 _ _ ?_)
            refine W.ret (ret_seq (ret_seq (ret_block (ret_seq (ret_seq (ret_block (ret_seq ?_)))))))
            have hs152 := St.tk0 hs140
            refine ret_of (.bool false) (by kernel_rfl) ⟨_, ⟨congrArg Value.bool (some_inj hm), rfl⟩, hs152⟩
          ·
           have h143p : ¬ (r135.2.1 = 0) := of_decide_eq_false (bnot_true h143)
           replace hm := ite_no hm h143p
           refine zS 153 h143 ?_
           refine zS 152 h143 ?_
           refine zE 4 (hK142 _ _ ?_)
           refine W.cond_true true (by kernel_rfl) rfl ?_
           refine W.sr fun K153 hK153 => ?_
           refine zE 1 (hK153 _ _ ?_)
           refine W.ret (ret_seq (ret_seq (ret_block (ret_seq (ret_seq (ret_block (ret_seq ?_)))))))
           have hs154 := St.tk0 hs140
           refine ret_of (.bool false) (by kernel_rfl) ⟨_, ⟨congrArg Value.bool (some_inj hm), rfl⟩, hs154⟩
         ·
          refine W.block ?_
          have hs160 := St.f5 hs107
          have hs161 := St.f4 hs160
          have hs162 := St.f5 hs161
          have hs163 := St.f5 hs162
          have hs164 := St.f5 hs163
          have hs165 := St.f5 hs164
          refine W.loop_iter (G := Int) (σ := Int) (fun | p155 => p155) (fun | p155, s_, w_ => (∃ us, s_ = slots 168 [(1, (.slice sa ss.length sc)), (5, (.int .i64 (i_.tmod 4))), (6, (.slice m48 q50.length m49)), (8, (.pointer (some ⟨b38, 0, none⟩))), (9, (.pointer (some ⟨b45, 0, none⟩))), (10, (.int .i64 p54)), (12, (.int .u64 r75)), (13, (.pointer (some ⟨b78, 0, none⟩))), (18, (.int .u64 p155))] us) ∧ St B w [] w_ [kU64.row m48 m49 q50, blk b38 (.cells (kRe.cells q103).toArray 147 (0, 0)), blk b45 (.cells (kBool.cells q104).toArray 148 (0, 0)), viewA (ptr b78) q50 l105, blk b70 (.cells [(.int .u8 ((ss.getD p54.toNat dSt11).c0)), (.int .i64 ((ss.getD p54.toNat dSt11).c1)), (.int .u64 ((ss.getD p54.toNat dSt11).c2)), (.int .u64 ((ss.getD p54.toNat dSt11).c3)), (.int .i64 ((ss.getD p54.toNat dSt11).c4)), (.int .u64 ((ss.getD p54.toNat dSt11).c5)), (.int .u64 ((ss.getD p54.toNat dSt11).c6)), (.string ((ss.getD p54.toNat dSt11).c7)), (.bool ((ss.getD p54.toNat dSt11).c8))].toArray 110 (0, 0)), blk b93 (.cells [(.int .i64 r86.2.1), (.int .u64 r86.2.2.1), (.int .u64 r86.2.2.2.1), (.string r86.2.2.2.2.1)].toArray 46 (0, 0))]) p51 ⟨slots_intro _ (by kernel_rfl), hs165⟩ hm ?_
          rintro k156 ih157 p155 _ w158 ⟨⟨us, rfl⟩, hs159⟩ hm
          replace hm : classonce_B1 i_ k55 q50 p54 r75 q103 q104 l105 k156 p155 = some true := hm
          unfold classonce_B1 at hm
          refine W.seq fun K166 hK166 => ?_
          refine W.sr fun K167 hK167 => ?_
          refine zR 4 ?_
          rcases Bool.eq_false_or_eq_true (decide (p155 < r75)) with h168 | h168
          ·
           obtain ⟨h168p, hm⟩ := iY hm h168
           refine zS 136 h168 ?_
           refine zS 135 h168 ?_
           refine zR 1 ?_
           refine ops_val (v := .int .u64 (IntKind.u64.wrap (p155 + 1))) (v' := .int .u64 ((p155 + 1) % 18446744073709551616)) (by kernel_rfl) (congrArg (Value.int .u64) (wrap_u64_mod _)) ?_
           obtain ⟨h171, hm⟩ := need_some hm
           have hk169 : ((p155 + 1) % 18446744073709551616).toNat < 80 := by omega
           obtain ⟨h172, hm⟩ := need_some hm
           have hl170 : ((p155 + 1) % 18446744073709551616).toNat < q104.length := by omega
           refine ops_R (v := .pointer (some (adr (some ⟨b45, 0, none⟩) ((((p155 + 1) % 18446744073709551616).toNat) * 1)))) (runs_indexA (ad := ⟨b45, 0, none⟩) (n := 80) (z := ((p155 + 1) % 18446744073709551616)) (size := 1) (((p155 + 1) % 18446744073709551616).toNat) (nat_of h171.1) hk169 (by kernel_rfl)) ?_
           refine zL ((adr (some ⟨b45, 0, none⟩) ((((p155 + 1) % 18446744073709551616).toNat) * 1)).add 0) (.bool (q104.getD (((p155 + 1) % 18446744073709551616).toNat) false)) (kBool.at (cells_blk (hs159.heapAt 2 rfl)) hl170 false 0 rfl) ?_
           refine zE 1 (hK167 _ _ ?_)
           refine W.cond (q104.getD (((p155 + 1) % 18446744073709551616).toNat) false) (by kernel_rfl) (fun h173 => ?_) (fun h173 => ?_)
           ·
            have h173p : (q104.getD (((p155 + 1) % 18446744073709551616).toNat) false) = true := h173
            replace hm := ite_yes hm h173p
            refine W.skip ?_
            refine hK166 _ _ ?_
            refine W.block ?_
            refine W.region ?_
            refine zR 1 ?_
            refine ops_val (v := .int .u64 (IntKind.u64.wrap (p155 + 1))) (v' := .int .u64 ((p155 + 1) % 18446744073709551616)) (by kernel_rfl) (congrArg (Value.int .u64) (wrap_u64_mod _)) ?_
            refine zR 1 ?_
            obtain ⟨r174, h175, hm⟩ := bind_some hm
            replace h175 := some_inj h175
            refine ops_set 18 (v := .int .u64 r174) (Eq.trans (by kernel_rfl) (congrArg (Value.int .u64) h175)) ?_
            refine zD ?_
            refine normal_block ?_
            refine loopAt_next ?_
            exact ih157 r174 _ _ ⟨slots_intro _ (by kernel_rfl), hs159⟩ hm
           ·
            have h173p : ¬ ((q104.getD (((p155 + 1) % 18446744073709551616).toNat) false) = true) := ne_true_of_eq_false h173
            replace hm := ite_no hm h173p
            refine W.exit (exit_seq (exit_seq (exit_here ?_)))
            exact ⟨p155, slots_intro _ (by kernel_rfl), hs159, hm⟩
          ·
           obtain ⟨h168p, hm⟩ := iN hm h168
           refine zS 136 h168 ?_
           refine zS 135 h168 ?_
           refine zE 5 (hK167 _ _ ?_)
           refine W.cond_false false (by kernel_rfl) rfl ?_
           refine W.exit (exit_seq (exit_seq (exit_here ?_)))
           exact ⟨p155, slots_intro _ (by kernel_rfl), hs159, hm⟩
        ·
         obtain ⟨h129p, hm⟩ := iN hm h129
         refine W.skip ?_
         have hs176 := St.f5 hs107
         have hs177 := St.f4 hs176
         have hs178 := St.f5 hs177
         have hs179 := St.f5 hs178
         have hs180 := St.f5 hs179
         have hs181 := St.f5 hs180
         exact ⟨p51, l105, slots_intro _ (by kernel_rfl), hs181, hm⟩
      ·
       refine W.seq_join (fun s_ w_ => ∃ (p182 : Bool), (∃ us, s_ = slots 168 [(1, (.slice sa ss.length sc)), (5, (.int .i64 (i_.tmod 4))), (6, (.slice m48 q50.length m49)), (7, (.int .u64 p51)), (8, (.pointer (some ⟨b38, 0, none⟩))), (9, (.pointer (some ⟨b45, 0, none⟩))), (10, (.int .i64 p54)), (11, (.pointer (some ⟨b70, 0, none⟩))), (12, (.int .u64 r75)), (13, (.pointer (some ⟨b78, 0, none⟩))), (111, (.bool p182))] us) ∧ St B w [] w_ [kU64.row m48 m49 q50, blk b38 (.cells (kRe.cells q52).toArray 147 (0, 0)), blk b45 (.cells (kBool.cells q53).toArray 148 (0, 0)), blk b70 (.cells [(.int .u8 ((ss.getD p54.toNat dSt11).c0)), (.int .i64 ((ss.getD p54.toNat dSt11).c1)), (.int .u64 ((ss.getD p54.toNat dSt11).c2)), (.int .u64 ((ss.getD p54.toNat dSt11).c3)), (.int .i64 ((ss.getD p54.toNat dSt11).c4)), (.int .u64 ((ss.getD p54.toNat dSt11).c5)), (.int .u64 ((ss.getD p54.toNat dSt11).c6)), (.string ((ss.getD p54.toNat dSt11).c7)), (.bool ((ss.getD p54.toNat dSt11).c8))].toArray 110 (0, 0)), viewA (ptr b78) q50 ([]), blk b93 (.cells [(.int .i64 r86.2.1), (.int .u64 r86.2.2.1), (.int .u64 r86.2.2.2.1), (.string r86.2.2.2.2.1)].toArray 46 (0, 0))] ∧ classonce_J8 i_ ss k55 q50 p51 q52 q53 p54 r75 p182 = some true) ?_ ?_
       ·
        rintro _ w183 ⟨p182, ⟨us, rfl⟩, hs184, hm⟩
        unfold classonce_J8 at hm
        refine W.cond p182 (by kernel_rfl) (fun h185 => ?_) (fun h185 => ?_)
        ·
         have h185p : p182 = true := h185
         replace hm := ite_yes hm h185p
         refine W.seq fun K186 hK186 => ?_
         refine W.sr fun K187 hK187 => ?_
         refine zR 4 ?_
         obtain ⟨h188, hm⟩ := need_some hm
         refine zI _ (wrap_i64 h188.1 h188.2) ?_
         refine zR 2 ?_
         refine ops_R (runs_loadAgg (ad := ⟨b70, 4, none⟩) (cs := [(.int .i64 ((ss.getD p54.toNat dSt11).c4)), (.int .u64 ((ss.getD p54.toNat dSt11).c5)), (.int .u64 ((ss.getD p54.toNat dSt11).c6)), (.string ((ss.getD p54.toNat dSt11).c7))]) (by kernel_rfl) (cells_sub (hs184.heapAt 3 rfl) rfl)) ?_
         obtain ⟨r189, h190, hm⟩ := bind_some hm
         have hs191 := St.f4 hs184
         refine zC11 hs191 (ssave_walk (vb := b78) (i_ := i_.tmod 4) (k_ := r75.tmod 4) (q_ := r75) (re_ := (ss.getD p54.toNat dSt11).c4) (ra_ := (ss.getD p54.toNat dSt11).c5) (rb_ := (ss.getD p54.toNat dSt11).c6) (rs_ := (ss.getD p54.toNat dSt11).c7) (img := q50) (l := []) (hG2 := hG2) (hL := (hs184.oldCells hL)) (hm := h190) B _) fun w192 hs194 => ?_
         refine zE 1 (hK187 _ _ ?_)
         refine W.cond (!decide (r189.1 = 0)) (by kernel_rfl) (fun h195 => ?_) (fun h195 => ?_)
         rotate_left
         ·
          have h195p : r189.1 = 0 := of_decide_eq_true (bnot_false h195)
          replace hm := ite_yes hm h195p
          refine W.skip ?_
          refine hK186 _ _ ?_
          refine W.sr fun K196 hK196 => ?_
          refine zR 1 ?_
          obtain ⟨h199, hm⟩ := need_some hm
          have hk197 : r75.toNat < 80 := by omega
          obtain ⟨h200, hm⟩ := need_some hm
          have hl198 : r75.toNat < q53.length := by omega
          refine ops_R (v := .pointer (some (adr (some ⟨b45, 0, none⟩) (r75.toNat * 1)))) (runs_indexA (ad := ⟨b45, 0, none⟩) (n := 80) (z := r75) (size := 1) r75.toNat (nat_of h199.1) hk197 (by kernel_rfl)) ?_
          have hs203 := St.f3 hs194
          refine ops_storeArr kBool (j := 0) (vs := [(.bool true)]) false true hs203 hl198 (Nat.le_of_ble_eq_true rfl) rfl rfl (by kernel_rfl) (fun w201 hs202 => ?_)
          refine zD (hK196 _ _ ?_)
          refine W.region ?_
          refine zR 2 ?_
          refine ops_R (runs_loadAgg (ad := ⟨b70, 4, none⟩) (cs := [(.int .i64 ((ss.getD p54.toNat dSt11).c4)), (.int .u64 ((ss.getD p54.toNat dSt11).c5)), (.int .u64 ((ss.getD p54.toNat dSt11).c6)), (.string ((ss.getD p54.toNat dSt11).c7))]) (by kernel_rfl) (cells_sub (hs202.heapAt 4 rfl) rfl)) ?_
          obtain ⟨h206, hm⟩ := need_some hm
          have hk204 : r75.toNat < 80 := by omega
          obtain ⟨h207, hm⟩ := need_some hm
          have hl205 : r75.toNat < q52.length := by omega
          refine ops_R (v := .pointer (some (adr (some ⟨b38, 0, none⟩) (r75.toNat * 4)))) (runs_indexA (ad := ⟨b38, 0, none⟩) (n := 80) (z := r75) (size := 4) r75.toNat (nat_of h206.1) hk204 (by kernel_rfl)) ?_
          have hs210 := St.f3 hs202
          refine ops_storeArr kRe (j := 0) (vs := [(.int .i64 ((ss.getD p54.toNat dSt11).c4)), (.int .u64 ((ss.getD p54.toNat dSt11).c5)), (.int .u64 ((ss.getD p54.toNat dSt11).c6)), (.string ((ss.getD p54.toNat dSt11).c7))]) dRe (⟨(ss.getD p54.toNat dSt11).c4, (ss.getD p54.toNat dSt11).c5, (ss.getD p54.toNat dSt11).c6, (ss.getD p54.toNat dSt11).c7⟩ : TRe) hs210 hl205 (Nat.le_of_ble_eq_true rfl) rfl rfl (by kernel_rfl) (fun w208 hs209 => ?_)
          refine zD ?_
          have hs211 := St.f5 hs209
          have hs212 := St.f3 hs211
          have hs213 := St.f5 hs212
          have hs214 := St.f4 hs213
          have hs215 := St.f4 hs214
          have hs216 := St.f5 hs215
          exact ⟨(q52.set r75.toNat (⟨(ss.getD p54.toNat dSt11).c4, (ss.getD p54.toNat dSt11).c5, (ss.getD p54.toNat dSt11).c6, (ss.getD p54.toNat dSt11).c7⟩ : TRe)), (q53.set r75.toNat true), r189.2, slots_intro _ (by kernel_rfl), hs216, hm⟩
         ·
          have h195p : ¬ (r189.1 = 0) := of_decide_eq_false (bnot_true h195)
          replace hm := ite_no hm h195p
          refine W.sr fun K217 hK217 => ?_
          refine zE 1 (hK217 _ _ ?_)
          refine W.ret (ret_seq (ret_seq (ret_block (ret_seq (ret_seq (ret_block (ret_seq ?_)))))))
          have hs218 := St.tk0 hs194
          refine ret_of (.bool false) (by kernel_rfl) ⟨_, ⟨congrArg Value.bool (some_inj hm), rfl⟩, hs218⟩
        ·
         have h185p : ¬ (p182 = true) := ne_true_of_eq_false h185
         replace hm := ite_no hm h185p
         refine W.skip ?_
         exact ⟨q52, q53, ([]), slots_intro _ (by kernel_rfl), hs184, hm⟩
       ·
        refine W.region ?_
        refine zR 1 ?_
        refine zL ⟨b70, 0, none⟩ (.int .u8 ((ss.getD p54.toNat dSt11).c0)) (hs102.cellAt 3 rfl rfl) ?_
        refine zR 3 ?_
        rcases Bool.eq_false_or_eq_true (decide (((ss.getD p54.toNat dSt11).c0).tmod 2 = 0)) with h219 | h219
        ·
         obtain ⟨h219p, hm⟩ := iY hm h219
         refine zS 103 h219 ?_
         refine zS 102 h219 ?_
         refine zR 4 ?_
         rcases Bool.eq_false_or_eq_true (decide (r86.1 = 0)) with h220 | h220
         ·
          obtain ⟨h220p, hm⟩ := iY hm h220
          refine zS 107 h220 ?_
          refine zS 105 h220 ?_
          refine zS 106 h220 ?_
          refine zR 1 ?_
          refine ops_R (runs_loadAgg (ad := ⟨b70, 4, none⟩) (cs := [(.int .i64 ((ss.getD p54.toNat dSt11).c4)), (.int .u64 ((ss.getD p54.toNat dSt11).c5)), (.int .u64 ((ss.getD p54.toNat dSt11).c6)), (.string ((ss.getD p54.toNat dSt11).c7))]) (by kernel_rfl) (cells_sub (hs102.heapAt 3 rfl) rfl)) ?_
          obtain ⟨r221, h222, hm⟩ := bind_some hm
          refine zC00 hs102 (smay10_walk (re_ := (ss.getD p54.toNat dSt11).c4) (ra_ := (ss.getD p54.toNat dSt11).c5) (rb_ := (ss.getD p54.toNat dSt11).c6) (rs_ := (ss.getD p54.toNat dSt11).c7) (hm := h222) B _) fun w223 hs225 => ?_
          refine zE 1 ?_
          exact ⟨r221, slots_intro _ (by kernel_rfl), hs225, hm⟩
         ·
          obtain ⟨h220p, hm⟩ := iN hm h220
          refine zS 107 h220 ?_
          refine zS 105 h220 ?_
          refine zS 106 h220 ?_
          refine zE 4 ?_
          exact ⟨false, slots_intro _ (by kernel_rfl), hs102, hm⟩
        ·
         obtain ⟨h219p, hm⟩ := iN hm h219
         refine zS 103 h219 ?_
         refine zS 102 h219 ?_
         refine zE 8 ?_
         exact ⟨false, slots_intro _ (by kernel_rfl), hs102, hm⟩
     ·
      refine W.seq fun K226 hK226 => ?_
      have hs227 := hs100.drew
      refine W.regionD [(0, 0), (1, 1), (2, 2), (4, 4), (4, 4), (28, 28), (36, 36), (68, 64), (128, 128), (384, 384), (640, 640), (1024, 1024), (1024, 1024), (5120, 5120), (9216, 9216), (19456, 19456), (33920, 33920), (65664, 65664), (132096, 131072), (262144, 262144), (786432, 786432), (1310720, 1310720), (2097152, 2097152), (2097152, 2097152), (14680064, 14680064), (19136512, 19136512), (33816576, 33816576)] (fun w_ => St B w [] w_ [kU64.row m48 m49 q50, blk b38 (.cells (kRe.cells q52).toArray 147 (0, 0)), blk b45 (.cells (kBool.cells q53).toArray 148 (0, 0)), blk b70 (.cells [(.int .u8 ((ss.getD p54.toNat dSt11).c0)), (.int .i64 ((ss.getD p54.toNat dSt11).c1)), (.int .u64 ((ss.getD p54.toNat dSt11).c2)), (.int .u64 ((ss.getD p54.toNat dSt11).c3)), (.int .i64 ((ss.getD p54.toNat dSt11).c4)), (.int .u64 ((ss.getD p54.toNat dSt11).c5)), (.int .u64 ((ss.getD p54.toNat dSt11).c6)), (.string ((ss.getD p54.toNat dSt11).c7)), (.bool ((ss.getD p54.toNat dSt11).c8))].toArray 110 (0, 0)), viewA (ptr b78) q50 ([]), blk b93 (.cells [(.int .i64 r86.2.1), (.int .u64 r86.2.2.1), (.int .u64 r86.2.2.2.1), (.string r86.2.2.2.2.1)].toArray 46 (0, 0))]) (by kernel_rfl) hs227 ?_
      refine any_val (v := (.int .i64 r86.2.2.2.2.2)) (v' := (.int .i64 r86.2.2.2.2.2)) 0 (by kernel_rfl) (fun _ => by kernel_rfl) rfl hs227 ?_
      refine any_val (v := (.bool (!decide (r86.2.2.2.2.2 = 0)))) (v' := (.bool (!decide (r86.2.2.2.2.2 = 0)))) 1 (by kernel_rfl) (fun _ => by kernel_rfl) rfl hs227 ?_
      refine any_val (v := (.bool (!decide (r86.2.2.2.2.2 = 0)))) (v' := (.bool (!decide (r86.2.2.2.2.2 = 0)))) 2 (by kernel_rfl) (fun _ => by kernel_rfl) rfl hs227 ?_
      rcases Bool.eq_false_or_eq_true (!decide (r86.2.2.2.2.2 = 0)) with h228 | h228
      rotate_left
      ·
       have h228p : r86.2.2.2.2.2 = 0 := of_decide_eq_true (bnot_false h228)
       replace hm := ite_yes hm h228p
       refine any_set 73 (v := .bool false) (eq_bool_of (by kernel_rfl) h228) ?_
       refine any_set 74 (v := .bool false) (eq_bool_of (by kernel_rfl) h228) ?_
       refine any_val (v := (.int .u8 r86.1)) (v' := (.int .u8 r86.1)) 3 (by kernel_rfl) (fun _ => by kernel_rfl) rfl hs227 ?_
       refine any_val (v := (.int .u8 p98)) (v' := (.int .u8 p98)) 4 (by kernel_rfl) (fun _ => by kernel_rfl) rfl hs227 ?_
       refine any_val (v := (.bool (!decide (r86.1 = p98)))) (v' := (.bool (!decide (r86.1 = p98)))) 5 (by kernel_rfl) (fun _ => by kernel_rfl) rfl hs227 ?_
       refine any_val (v := (.bool (!decide (r86.1 = p98)))) (v' := (.bool (!decide (r86.1 = p98)))) 6 (by kernel_rfl) (fun _ => by kernel_rfl) rfl hs227 ?_
       refine any_val (v := (.bool (!decide (r86.1 = p98)))) (v' := (.bool (!decide (r86.1 = p98)))) 7 (by kernel_rfl) (fun _ => by kernel_rfl) rfl hs227 ?_
       rcases Bool.eq_false_or_eq_true (!decide (r86.1 = p98)) with h229 | h229
       rotate_left
       ·
        have h229p : r86.1 = p98 := of_decide_eq_true (bnot_false h229)
        replace hm := ite_yes hm h229p
        refine any_set 77 (v := .bool false) (eq_bool_of (by kernel_rfl) h229) ?_
        refine any_set 78 (v := .bool false) (eq_bool_of (by kernel_rfl) h229) ?_
        refine any_set 79 (v := .bool false) (eq_bool_of (by kernel_rfl) h229) ?_
        refine any_val (v := (.int .u8 r86.1)) (v' := (.int .u8 r86.1)) 8 (by kernel_rfl) (fun _ => by kernel_rfl) rfl hs227 ?_
        refine any_val (v := (.bool (decide (r86.1 = 1)))) (v' := (.bool (decide (r86.1 = 1)))) 9 (by kernel_rfl) (fun _ => by kernel_rfl) rfl hs227 ?_
        refine any_val (v := (.bool (decide (r86.1 = 1)))) (v' := (.bool (decide (r86.1 = 1)))) 10 (by kernel_rfl) (fun _ => by kernel_rfl) rfl hs227 ?_
        rcases Bool.eq_false_or_eq_true (decide (r86.1 = 1)) with h230 | h230
        ·
         obtain ⟨h230p, hm⟩ := iY hm h230
         refine any_set 81 (v := .bool true) (eq_bool_of (by kernel_rfl) h230) ?_
         refine any_set 82 (v := .bool true) (eq_bool_of (by kernel_rfl) h230) ?_
         refine any_R 11 (by kernel_rfl) (fun _ hS_ => runs_loadAgg (ad := ⟨b93, 0, none⟩) (cs := [(.int .i64 r86.2.1), (.int .u64 r86.2.2.1), (.int .u64 r86.2.2.2.1), (.string r86.2.2.2.2.1)]) (by kernel_rfl) (cells_sub (hS_.heapAt 5 rfl) rfl)) hs227 ?_
         refine any_val (v := (.int .u64 r75)) (v' := (.int .u64 r75)) 12 (by kernel_rfl) (fun _ => by kernel_rfl) rfl hs227 ?_
         obtain ⟨h233, hm⟩ := need_some hm
         have hk231 : r75.toNat < 80 := by omega
         obtain ⟨h234, hm⟩ := need_some hm
         have hl232 : r75.toNat < q52.length := by omega
         refine any_R (v := .pointer (some (adr (some ⟨b38, 0, none⟩) (r75.toNat * 4)))) 13 (by kernel_rfl) (fun _ hS_ => runs_indexA (ad := ⟨b38, 0, none⟩) (n := 80) (z := r75) (size := 4) r75.toNat (nat_of h233.1) hk231 (by kernel_rfl)) hs227 ?_
         refine any_R 14 (by kernel_rfl) (fun _ hS_ => runs_loadAgg (cs := [(.int .i64 ((q52.getD r75.toNat dRe).c0)), (.int .u64 ((q52.getD r75.toNat dRe).c1)), (.int .u64 ((q52.getD r75.toNat dRe).c2)), (.string ((q52.getD r75.toNat dRe).c3))]) (by kernel_rfl) (kRe.all (cells_blk (hS_.heapAt 1 rfl)) hl232 dRe 0 rfl)) hs227 ?_
         refine any_R (v := (.bool (!((decide (r86.2.1 = (q52.getD r75.toNat dRe).c0)) && ((decide (r86.2.2.1 = (q52.getD r75.toNat dRe).c1)) && ((decide (r86.2.2.2.1 = (q52.getD r75.toNat dRe).c2)) && ((r86.2.2.2.2.1 == ((q52.getD r75.toNat dRe).c3)) && true))))))) 15 (by kernel_rfl) (fun _ hS_ => runs_eq (b := !((decide (r86.2.1 = (q52.getD r75.toNat dRe).c0)) && ((decide (r86.2.2.1 = (q52.getD r75.toNat dRe).c1)) && ((decide (r86.2.2.2.1 = (q52.getD r75.toNat dRe).c2)) && ((r86.2.2.2.2.1 == ((q52.getD r75.toNat dRe).c3)) && true))))) (by kernel_rfl)) hs227 ?_
         refine any_val (v := (.bool (!((decide (r86.2.1 = (q52.getD r75.toNat dRe).c0)) && ((decide (r86.2.2.1 = (q52.getD r75.toNat dRe).c1)) && ((decide (r86.2.2.2.1 = (q52.getD r75.toNat dRe).c2)) && ((r86.2.2.2.2.1 == ((q52.getD r75.toNat dRe).c3)) && true))))))) (v' := (.bool (!((decide (r86.2.1 = (q52.getD r75.toNat dRe).c0)) && ((decide (r86.2.2.1 = (q52.getD r75.toNat dRe).c1)) && ((decide (r86.2.2.2.1 = (q52.getD r75.toNat dRe).c2)) && ((r86.2.2.2.2.1 == ((q52.getD r75.toNat dRe).c3)) && true))))))) 16 (by kernel_rfl) (fun _ => by kernel_rfl) rfl hs227 ?_
         refine any_val (v := (.bool (!((decide (r86.2.1 = (q52.getD r75.toNat dRe).c0)) && ((decide (r86.2.2.1 = (q52.getD r75.toNat dRe).c1)) && ((decide (r86.2.2.2.1 = (q52.getD r75.toNat dRe).c2)) && ((r86.2.2.2.2.1 == ((q52.getD r75.toNat dRe).c3)) && true))))))) (v' := (.bool (!((decide (r86.2.1 = (q52.getD r75.toNat dRe).c0)) && ((decide (r86.2.2.1 = (q52.getD r75.toNat dRe).c1)) && ((decide (r86.2.2.2.1 = (q52.getD r75.toNat dRe).c2)) && ((r86.2.2.2.2.1 == ((q52.getD r75.toNat dRe).c3)) && true))))))) 17 (by kernel_rfl) (fun _ => by kernel_rfl) rfl hs227 ?_
         refine any_val (v := (.bool (!((decide (r86.2.1 = (q52.getD r75.toNat dRe).c0)) && ((decide (r86.2.2.1 = (q52.getD r75.toNat dRe).c1)) && ((decide (r86.2.2.2.1 = (q52.getD r75.toNat dRe).c2)) && ((r86.2.2.2.2.1 == ((q52.getD r75.toNat dRe).c3)) && true))))))) (v' := (.bool (!((decide (r86.2.1 = (q52.getD r75.toNat dRe).c0)) && ((decide (r86.2.2.1 = (q52.getD r75.toNat dRe).c1)) && ((decide (r86.2.2.2.1 = (q52.getD r75.toNat dRe).c2)) && ((r86.2.2.2.2.1 == ((q52.getD r75.toNat dRe).c3)) && true))))))) 18 (by kernel_rfl) (fun _ => by kernel_rfl) rfl hs227 ?_
         rcases Bool.eq_false_or_eq_true (!((decide (r86.2.1 = (q52.getD r75.toNat dRe).c0)) && ((decide (r86.2.2.1 = (q52.getD r75.toNat dRe).c1)) && ((decide (r86.2.2.2.1 = (q52.getD r75.toNat dRe).c2)) && ((r86.2.2.2.2.1 == ((q52.getD r75.toNat dRe).c3)) && true))))) with h235 | h235
         rotate_left
         ·
          have h235p : r86.2.1 = (q52.getD r75.toNat dRe).c0 ∧ r86.2.2.1 = (q52.getD r75.toNat dRe).c1 ∧ r86.2.2.2.1 = (q52.getD r75.toNat dRe).c2 ∧ r86.2.2.2.2.1 = ((q52.getD r75.toNat dRe).c3) := by simpa using (bnot_false h235)
          replace hm := ite_yes hm h235p
          refine any_set 87 (v := .bool false) (eq_bool_of (by kernel_rfl) h235) ?_
          refine any_set 88 (v := .bool false) (eq_bool_of (by kernel_rfl) h235) ?_
          refine any_set 89 (v := .bool false) (eq_bool_of (by kernel_rfl) h235) ?_
          refine any_set 90 (v := .bool false) (eq_bool_of (by kernel_rfl) h235) ?_
          refine any_val (v := (.int .u8 r86.1)) (v' := (.int .u8 r86.1)) 19 (by kernel_rfl) (fun _ => by kernel_rfl) rfl hs227 ?_
          refine any_val (v := (.bool (!decide (r86.1 = 1)))) (v' := (.bool (!decide (r86.1 = 1)))) 20 (by kernel_rfl) (fun _ => by kernel_rfl) rfl hs227 ?_
          refine any_val (v := (.bool (!decide (r86.1 = 1)))) (v' := (.bool (!decide (r86.1 = 1)))) 21 (by kernel_rfl) (fun _ => by kernel_rfl) rfl hs227 ?_
          rcases Bool.eq_false_or_eq_true (!decide (r86.1 = 1)) with h236 | h236
          rotate_left
          ·
           have h236p : r86.1 = 1 := of_decide_eq_true (bnot_false h236)
           replace hm := ite_yes hm h236p
           refine any_set 92 (v := .bool false) (eq_bool_of (by kernel_rfl) h236) ?_
           refine any_set 93 (v := .bool false) (eq_bool_of (by kernel_rfl) h236) ?_
           refine any_skip 22 (by kernel_rfl) (by kernel_rfl) hs227 ?_
           refine any_skip 23 (by kernel_rfl) (by kernel_rfl) hs227 ?_
           refine any_skip 24 (by kernel_rfl) (by kernel_rfl) hs227 ?_
           refine any_val (v := (.bool false)) (v' := (.bool false)) 25 (by kernel_rfl) (fun _ => by kernel_rfl) rfl hs227 ?_
           refine any_val (v := (.bool false)) (v' := (.bool false)) 26 (by kernel_rfl) (fun _ => by kernel_rfl) rfl hs227 ?_
           refine any_done (by kernel_rfl) ?_
           refine hK226 _ _ ?_
           refine W.cond_false false (by kernel_rfl) rfl ?_
           refine W.skip ?_
           exact ⟨slots_intro _ (by kernel_rfl), hs227, hm⟩
          ·
           have h236p : ¬ (r86.1 = 1) := of_decide_eq_false (bnot_true h236)
           replace hm := ite_no hm h236p
           refine any_set 92 (v := .bool true) (eq_bool_of (by kernel_rfl) h236) ?_
           refine any_set 93 (v := .bool true) (eq_bool_of (by kernel_rfl) h236) ?_
           refine any_R 22 (by kernel_rfl) (fun _ hS_ => runs_loadAgg (ad := ⟨b93, 0, none⟩) (cs := [(.int .i64 r86.2.1), (.int .u64 r86.2.2.1), (.int .u64 r86.2.2.2.1), (.string r86.2.2.2.2.1)]) (by kernel_rfl) (cells_sub (hS_.heapAt 5 rfl) rfl)) hs227 ?_
           refine any_val (v := (.agg #[(.int .i64 0), (.int .u64 0), (.int .u64 0), (.string ByteArray.empty)])) (v' := (.agg #[(.int .i64 0), (.int .u64 0), (.int .u64 0), (.string ByteArray.empty)])) 23 (by kernel_rfl) (fun _ => by kernel_rfl) rfl hs227 ?_
           refine any_R (v := (.bool (!((decide (r86.2.1 = 0)) && ((decide (r86.2.2.1 = 0)) && ((decide (r86.2.2.2.1 = 0)) && ((r86.2.2.2.2.1 == ByteArray.empty) && true))))))) 24 (by kernel_rfl) (fun _ hS_ => runs_eq (b := !((decide (r86.2.1 = 0)) && ((decide (r86.2.2.1 = 0)) && ((decide (r86.2.2.2.1 = 0)) && ((r86.2.2.2.2.1 == ByteArray.empty) && true))))) (by kernel_rfl)) hs227 ?_
           refine any_val (v := (.bool (!((decide (r86.2.1 = 0)) && ((decide (r86.2.2.1 = 0)) && ((decide (r86.2.2.2.1 = 0)) && ((r86.2.2.2.2.1 == ByteArray.empty) && true))))))) (v' := (.bool (!((decide (r86.2.1 = 0)) && ((decide (r86.2.2.1 = 0)) && ((decide (r86.2.2.2.1 = 0)) && ((r86.2.2.2.2.1 == ByteArray.empty) && true))))))) 25 (by kernel_rfl) (fun _ => by kernel_rfl) rfl hs227 ?_
           refine any_val (v := (.bool (!((decide (r86.2.1 = 0)) && ((decide (r86.2.2.1 = 0)) && ((decide (r86.2.2.2.1 = 0)) && ((r86.2.2.2.2.1 == ByteArray.empty) && true))))))) (v' := (.bool (!((decide (r86.2.1 = 0)) && ((decide (r86.2.2.1 = 0)) && ((decide (r86.2.2.2.1 = 0)) && ((r86.2.2.2.2.1 == ByteArray.empty) && true))))))) 26 (by kernel_rfl) (fun _ => by kernel_rfl) rfl hs227 ?_
           refine any_done (by kernel_rfl) ?_
           refine hK226 _ _ ?_
           refine W.cond (!((decide (r86.2.1 = 0)) && ((decide (r86.2.2.1 = 0)) && ((decide (r86.2.2.2.1 = 0)) && ((r86.2.2.2.2.1 == ByteArray.empty) && true))))) (by kernel_rfl) (fun h237 => ?_) (fun h237 => ?_)
           rotate_left
           ·
            have h237p : r86.2.1 = 0 ∧ r86.2.2.1 = 0 ∧ r86.2.2.2.1 = 0 ∧ r86.2.2.2.2.1 = ByteArray.empty := by simpa using (bnot_false h237)
            replace hm := ite_yes hm h237p
            refine W.skip ?_
            exact ⟨slots_intro _ (by kernel_rfl), hs227, hm⟩
           ·
            have h237p : ¬ (r86.2.1 = 0 ∧ r86.2.2.1 = 0 ∧ r86.2.2.2.1 = 0 ∧ r86.2.2.2.2.1 = ByteArray.empty) := by simpa using (bnot_true h237)
            replace hm := ite_no hm h237p
            refine W.sr fun K238 hK238 => ?_
            refine zE 1 (hK238 _ _ ?_)
            refine W.ret (ret_seq (ret_block (ret_seq (ret_seq (ret_block (ret_seq ?_))))))
            have hs239 := St.tk0 hs227
            refine ret_of (.bool false) (by kernel_rfl) ⟨_, ⟨congrArg Value.bool (some_inj hm), rfl⟩, hs239⟩
         ·
          have h235p : ¬ (r86.2.1 = (q52.getD r75.toNat dRe).c0 ∧ r86.2.2.1 = (q52.getD r75.toNat dRe).c1 ∧ r86.2.2.2.1 = (q52.getD r75.toNat dRe).c2 ∧ r86.2.2.2.2.1 = ((q52.getD r75.toNat dRe).c3)) := by simpa using (bnot_true h235)
          replace hm := ite_no hm h235p
          refine any_set 87 (v := .bool true) (eq_bool_of (by kernel_rfl) h235) ?_
          refine any_set 88 (v := .bool true) (eq_bool_of (by kernel_rfl) h235) ?_
          refine any_set 89 (v := .bool true) (eq_bool_of (by kernel_rfl) h235) ?_
          refine any_set 90 (v := .bool true) (eq_bool_of (by kernel_rfl) h235) ?_
          refine any_skip 19 (by kernel_rfl) (by kernel_rfl) hs227 ?_
          refine any_skip 20 (by kernel_rfl) (by kernel_rfl) hs227 ?_
          refine any_skip 21 (by kernel_rfl) (by kernel_rfl) hs227 ?_
          refine any_skip 22 (by kernel_rfl) (by kernel_rfl) hs227 ?_
          refine any_skip 23 (by kernel_rfl) (by kernel_rfl) hs227 ?_
          refine any_skip 24 (by kernel_rfl) (by kernel_rfl) hs227 ?_
          refine any_skip 25 (by kernel_rfl) (by kernel_rfl) hs227 ?_
          refine any_val (v := (.bool true)) (v' := (.bool true)) 26 (by kernel_rfl) (fun _ => by kernel_rfl) rfl hs227 ?_
          refine any_done (by kernel_rfl) ?_
          refine hK226 _ _ ?_
          refine W.cond_true true (by kernel_rfl) rfl ?_
          refine W.sr fun K240 hK240 => ?_
          refine zE 1 (hK240 _ _ ?_)
          refine W.ret (ret_seq (ret_block (ret_seq (ret_seq (ret_block (ret_seq ?_))))))
          have hs241 := St.tk0 hs227
          refine ret_of (.bool false) (by kernel_rfl) ⟨_, ⟨congrArg Value.bool (some_inj hm), rfl⟩, hs241⟩
        ·
         obtain ⟨h230p, hm⟩ := iN hm h230
         refine any_set 81 (v := .bool false) (eq_bool_of (by kernel_rfl) h230) ?_
         refine any_set 82 (v := .bool false) (eq_bool_of (by kernel_rfl) h230) ?_
         refine any_skip 11 (by kernel_rfl) (by kernel_rfl) hs227 ?_
         refine any_skip 12 (by kernel_rfl) (by kernel_rfl) hs227 ?_
         refine any_skip 13 (by kernel_rfl) (by kernel_rfl) hs227 ?_
         refine any_skip 14 (by kernel_rfl) (by kernel_rfl) hs227 ?_
         refine any_skip 15 (by kernel_rfl) (by kernel_rfl) hs227 ?_
         refine any_val (v := (.bool false)) (v' := (.bool false)) 16 (by kernel_rfl) (fun _ => by kernel_rfl) rfl hs227 ?_
         refine any_val (v := (.bool false)) (v' := (.bool false)) 17 (by kernel_rfl) (fun _ => by kernel_rfl) rfl hs227 ?_
         refine any_val (v := (.bool false)) (v' := (.bool false)) 18 (by kernel_rfl) (fun _ => by kernel_rfl) rfl hs227 ?_
         refine any_val (v := (.int .u8 r86.1)) (v' := (.int .u8 r86.1)) 19 (by kernel_rfl) (fun _ => by kernel_rfl) rfl hs227 ?_
         refine any_val (v := (.bool (!decide (r86.1 = 1)))) (v' := (.bool (!decide (r86.1 = 1)))) 20 (by kernel_rfl) (fun _ => by kernel_rfl) rfl hs227 ?_
         refine any_val (v := (.bool (!decide (r86.1 = 1)))) (v' := (.bool (!decide (r86.1 = 1)))) 21 (by kernel_rfl) (fun _ => by kernel_rfl) rfl hs227 ?_
         rcases Bool.eq_false_or_eq_true (!decide (r86.1 = 1)) with h242 | h242
         rotate_left
         ·
          have h242p : r86.1 = 1 := of_decide_eq_true (bnot_false h242)
          replace hm := ite_yes hm h242p
          refine any_set 92 (v := .bool false) (eq_bool_of (by kernel_rfl) h242) ?_
          refine any_set 93 (v := .bool false) (eq_bool_of (by kernel_rfl) h242) ?_
          refine any_skip 22 (by kernel_rfl) (by kernel_rfl) hs227 ?_
          refine any_skip 23 (by kernel_rfl) (by kernel_rfl) hs227 ?_
          refine any_skip 24 (by kernel_rfl) (by kernel_rfl) hs227 ?_
          refine any_val (v := (.bool false)) (v' := (.bool false)) 25 (by kernel_rfl) (fun _ => by kernel_rfl) rfl hs227 ?_
          refine any_val (v := (.bool false)) (v' := (.bool false)) 26 (by kernel_rfl) (fun _ => by kernel_rfl) rfl hs227 ?_
          refine any_done (by kernel_rfl) ?_
          refine hK226 _ _ ?_
          refine W.cond_false false (by kernel_rfl) rfl ?_
          refine W.skip ?_
          exact ⟨slots_intro _ (by kernel_rfl), hs227, hm⟩
         ·
          have h242p : ¬ (r86.1 = 1) := of_decide_eq_false (bnot_true h242)
          replace hm := ite_no hm h242p
          refine any_set 92 (v := .bool true) (eq_bool_of (by kernel_rfl) h242) ?_
          refine any_set 93 (v := .bool true) (eq_bool_of (by kernel_rfl) h242) ?_
          refine any_R 22 (by kernel_rfl) (fun _ hS_ => runs_loadAgg (ad := ⟨b93, 0, none⟩) (cs := [(.int .i64 r86.2.1), (.int .u64 r86.2.2.1), (.int .u64 r86.2.2.2.1), (.string r86.2.2.2.2.1)]) (by kernel_rfl) (cells_sub (hS_.heapAt 5 rfl) rfl)) hs227 ?_
          refine any_val (v := (.agg #[(.int .i64 0), (.int .u64 0), (.int .u64 0), (.string ByteArray.empty)])) (v' := (.agg #[(.int .i64 0), (.int .u64 0), (.int .u64 0), (.string ByteArray.empty)])) 23 (by kernel_rfl) (fun _ => by kernel_rfl) rfl hs227 ?_
          refine any_R (v := (.bool (!((decide (r86.2.1 = 0)) && ((decide (r86.2.2.1 = 0)) && ((decide (r86.2.2.2.1 = 0)) && ((r86.2.2.2.2.1 == ByteArray.empty) && true))))))) 24 (by kernel_rfl) (fun _ hS_ => runs_eq (b := !((decide (r86.2.1 = 0)) && ((decide (r86.2.2.1 = 0)) && ((decide (r86.2.2.2.1 = 0)) && ((r86.2.2.2.2.1 == ByteArray.empty) && true))))) (by kernel_rfl)) hs227 ?_
          refine any_val (v := (.bool (!((decide (r86.2.1 = 0)) && ((decide (r86.2.2.1 = 0)) && ((decide (r86.2.2.2.1 = 0)) && ((r86.2.2.2.2.1 == ByteArray.empty) && true))))))) (v' := (.bool (!((decide (r86.2.1 = 0)) && ((decide (r86.2.2.1 = 0)) && ((decide (r86.2.2.2.1 = 0)) && ((r86.2.2.2.2.1 == ByteArray.empty) && true))))))) 25 (by kernel_rfl) (fun _ => by kernel_rfl) rfl hs227 ?_
          refine any_val (v := (.bool (!((decide (r86.2.1 = 0)) && ((decide (r86.2.2.1 = 0)) && ((decide (r86.2.2.2.1 = 0)) && ((r86.2.2.2.2.1 == ByteArray.empty) && true))))))) (v' := (.bool (!((decide (r86.2.1 = 0)) && ((decide (r86.2.2.1 = 0)) && ((decide (r86.2.2.2.1 = 0)) && ((r86.2.2.2.2.1 == ByteArray.empty) && true))))))) 26 (by kernel_rfl) (fun _ => by kernel_rfl) rfl hs227 ?_
          refine any_done (by kernel_rfl) ?_
          refine hK226 _ _ ?_
          refine W.cond (!((decide (r86.2.1 = 0)) && ((decide (r86.2.2.1 = 0)) && ((decide (r86.2.2.2.1 = 0)) && ((r86.2.2.2.2.1 == ByteArray.empty) && true))))) (by kernel_rfl) (fun h243 => ?_) (fun h243 => ?_)
          rotate_left
          ·
           have h243p : r86.2.1 = 0 ∧ r86.2.2.1 = 0 ∧ r86.2.2.2.1 = 0 ∧ r86.2.2.2.2.1 = ByteArray.empty := by simpa using (bnot_false h243)
           replace hm := ite_yes hm h243p
           refine W.skip ?_
           exact ⟨slots_intro _ (by kernel_rfl), hs227, hm⟩
          ·
           have h243p : ¬ (r86.2.1 = 0 ∧ r86.2.2.1 = 0 ∧ r86.2.2.2.1 = 0 ∧ r86.2.2.2.2.1 = ByteArray.empty) := by simpa using (bnot_true h243)
           replace hm := ite_no hm h243p
           refine W.sr fun K244 hK244 => ?_
           refine zE 1 (hK244 _ _ ?_)
           refine W.ret (ret_seq (ret_block (ret_seq (ret_seq (ret_block (ret_seq ?_))))))
           have hs245 := St.tk0 hs227
           refine ret_of (.bool false) (by kernel_rfl) ⟨_, ⟨congrArg Value.bool (some_inj hm), rfl⟩, hs245⟩
       ·
        have h229p : ¬ (r86.1 = p98) := of_decide_eq_false (bnot_true h229)
        replace hm := ite_no hm h229p
        refine any_set 77 (v := .bool true) (eq_bool_of (by kernel_rfl) h229) ?_
        refine any_set 78 (v := .bool true) (eq_bool_of (by kernel_rfl) h229) ?_
        refine any_set 79 (v := .bool true) (eq_bool_of (by kernel_rfl) h229) ?_
        refine any_skip 8 (by kernel_rfl) (by kernel_rfl) hs227 ?_
        refine any_skip 9 (by kernel_rfl) (by kernel_rfl) hs227 ?_
        refine any_skip 10 (by kernel_rfl) (by kernel_rfl) hs227 ?_
        refine any_skip 11 (by kernel_rfl) (by kernel_rfl) hs227 ?_
        refine any_skip 12 (by kernel_rfl) (by kernel_rfl) hs227 ?_
        refine any_skip 13 (by kernel_rfl) (by kernel_rfl) hs227 ?_
        refine any_skip 14 (by kernel_rfl) (by kernel_rfl) hs227 ?_
        refine any_skip 15 (by kernel_rfl) (by kernel_rfl) hs227 ?_
        refine any_skip 16 (by kernel_rfl) (by kernel_rfl) hs227 ?_
        refine any_val (v := (.bool true)) (v' := (.bool true)) 17 (by kernel_rfl) (fun _ => by kernel_rfl) rfl hs227 ?_
        refine any_val (v := (.bool true)) (v' := (.bool true)) 18 (by kernel_rfl) (fun _ => by kernel_rfl) rfl hs227 ?_
        refine any_skip 19 (by kernel_rfl) (by kernel_rfl) hs227 ?_
        refine any_skip 20 (by kernel_rfl) (by kernel_rfl) hs227 ?_
        refine any_skip 21 (by kernel_rfl) (by kernel_rfl) hs227 ?_
        refine any_skip 22 (by kernel_rfl) (by kernel_rfl) hs227 ?_
        refine any_skip 23 (by kernel_rfl) (by kernel_rfl) hs227 ?_
        refine any_skip 24 (by kernel_rfl) (by kernel_rfl) hs227 ?_
        refine any_skip 25 (by kernel_rfl) (by kernel_rfl) hs227 ?_
        refine any_val (v := (.bool true)) (v' := (.bool true)) 26 (by kernel_rfl) (fun _ => by kernel_rfl) rfl hs227 ?_
        refine any_done (by kernel_rfl) ?_
        refine hK226 _ _ ?_
        refine W.cond_true true (by kernel_rfl) rfl ?_
        refine W.sr fun K246 hK246 => ?_
        refine zE 1 (hK246 _ _ ?_)
        refine W.ret (ret_seq (ret_block (ret_seq (ret_seq (ret_block (ret_seq ?_))))))
        have hs247 := St.tk0 hs227
        refine ret_of (.bool false) (by kernel_rfl) ⟨_, ⟨congrArg Value.bool (some_inj hm), rfl⟩, hs247⟩
      ·
       have h228p : ¬ (r86.2.2.2.2.2 = 0) := of_decide_eq_false (bnot_true h228)
       replace hm := ite_no hm h228p
       refine any_set 73 (v := .bool true) (eq_bool_of (by kernel_rfl) h228) ?_
       refine any_set 74 (v := .bool true) (eq_bool_of (by kernel_rfl) h228) ?_
       refine any_skip 3 (by kernel_rfl) (by kernel_rfl) hs227 ?_
       refine any_skip 4 (by kernel_rfl) (by kernel_rfl) hs227 ?_
       refine any_skip 5 (by kernel_rfl) (by kernel_rfl) hs227 ?_
       refine any_val (v := (.bool true)) (v' := (.bool true)) 6 (by kernel_rfl) (fun _ => by kernel_rfl) rfl hs227 ?_
       refine any_val (v := (.bool true)) (v' := (.bool true)) 7 (by kernel_rfl) (fun _ => by kernel_rfl) rfl hs227 ?_
       refine any_skip 8 (by kernel_rfl) (by kernel_rfl) hs227 ?_
       refine any_skip 9 (by kernel_rfl) (by kernel_rfl) hs227 ?_
       refine any_skip 10 (by kernel_rfl) (by kernel_rfl) hs227 ?_
       refine any_skip 11 (by kernel_rfl) (by kernel_rfl) hs227 ?_
       refine any_skip 12 (by kernel_rfl) (by kernel_rfl) hs227 ?_
       refine any_skip 13 (by kernel_rfl) (by kernel_rfl) hs227 ?_
       refine any_skip 14 (by kernel_rfl) (by kernel_rfl) hs227 ?_
       refine any_skip 15 (by kernel_rfl) (by kernel_rfl) hs227 ?_
       refine any_skip 16 (by kernel_rfl) (by kernel_rfl) hs227 ?_
       refine any_val (v := (.bool true)) (v' := (.bool true)) 17 (by kernel_rfl) (fun _ => by kernel_rfl) rfl hs227 ?_
       refine any_val (v := (.bool true)) (v' := (.bool true)) 18 (by kernel_rfl) (fun _ => by kernel_rfl) rfl hs227 ?_
       refine any_skip 19 (by kernel_rfl) (by kernel_rfl) hs227 ?_
       refine any_skip 20 (by kernel_rfl) (by kernel_rfl) hs227 ?_
       refine any_skip 21 (by kernel_rfl) (by kernel_rfl) hs227 ?_
       refine any_skip 22 (by kernel_rfl) (by kernel_rfl) hs227 ?_
       refine any_skip 23 (by kernel_rfl) (by kernel_rfl) hs227 ?_
       refine any_skip 24 (by kernel_rfl) (by kernel_rfl) hs227 ?_
       refine any_skip 25 (by kernel_rfl) (by kernel_rfl) hs227 ?_
       refine any_val (v := (.bool true)) (v' := (.bool true)) 26 (by kernel_rfl) (fun _ => by kernel_rfl) rfl hs227 ?_
       refine any_done (by kernel_rfl) ?_
       refine hK226 _ _ ?_
       refine W.cond_true true (by kernel_rfl) rfl ?_
       refine W.sr fun K248 hK248 => ?_
       refine zE 1 (hK248 _ _ ?_)
       refine W.ret (ret_seq (ret_block (ret_seq (ret_seq (ret_block (ret_seq ?_))))))
       have hs249 := St.tk0 hs227
       refine ret_of (.bool false) (by kernel_rfl) ⟨_, ⟨congrArg Value.bool (some_inj hm), rfl⟩, hs249⟩
    ·
     refine W.block ?_
     refine W.sr fun K250 hK250 => ?_
     refine zE 4 (hK250 _ _ ?_)
     refine W.cond (decide (r75 ≤ p51)) (by kernel_rfl) (fun h251 => ?_) (fun h251 => ?_)
     ·
      obtain ⟨h251p, hm⟩ := iY hm h251
      refine W.region ?_
      refine zE 1 ?_
      refine normal_block ?_
      have hs252 := St.f1 hs96
      have hs253 := St.f2 hs252
      have hs254 := St.f5 hs253
      have hs255 := St.f5 hs254
      have hs256 := St.f5 hs255
      exact ⟨2, slots_intro _ (by kernel_rfl), hs256, hm⟩
     ·
      obtain ⟨h251p, hm⟩ := iN hm h251
      refine W.sr fun K257 hK257 => ?_
      refine zR 2 ?_
      refine ops_val (v := .int .u64 (IntKind.u64.wrap (p51 + 4))) (v' := .int .u64 ((p51 + 4) % 18446744073709551616)) (by kernel_rfl) (congrArg (Value.int .u64) (wrap_u64_mod _)) ?_
      refine zE 2 (hK257 _ _ ?_)
      refine W.cond (decide (r75 > ((p51 + 4) % 18446744073709551616))) (by kernel_rfl) (fun h258 => ?_) (fun h258 => ?_)
      ·
       obtain ⟨h258p, hm⟩ := iY hm h258
       refine W.region ?_
       refine zE 1 ?_
       refine normal_block ?_
       have hs259 := St.f1 hs96
       have hs260 := St.f2 hs259
       have hs261 := St.f5 hs260
       have hs262 := St.f5 hs261
       have hs263 := St.f5 hs262
       exact ⟨3, slots_intro _ (by kernel_rfl), hs263, hm⟩
      ·
       obtain ⟨h258p, hm⟩ := iN hm h258
       refine W.sr fun K264 hK264 => ?_
       refine zR 1 ?_
       obtain ⟨h267, hm⟩ := need_some hm
       have hk265 : r75.toNat < 80 := by omega
       obtain ⟨h268, hm⟩ := need_some hm
       have hl266 : r75.toNat < q53.length := by omega
       refine ops_R (v := .pointer (some (adr (some ⟨b45, 0, none⟩) (r75.toNat * 1)))) (runs_indexA (ad := ⟨b45, 0, none⟩) (n := 80) (z := r75) (size := 1) r75.toNat (nat_of h267.1) hk265 (by kernel_rfl)) ?_
       refine zL ((adr (some ⟨b45, 0, none⟩) (r75.toNat * 1)).add 0) (.bool (q53.getD r75.toNat false)) (kBool.at (cells_blk (hs96.heapAt 5 rfl)) hl266 false 0 rfl) ?_
       refine zE 1 (hK264 _ _ ?_)
       refine W.cond (q53.getD r75.toNat false) (by kernel_rfl) (fun h269 => ?_) (fun h269 => ?_)
       ·
        have h269p : (q53.getD r75.toNat false) = true := h269
        replace hm := ite_yes hm h269p
        refine W.region ?_
        refine zE 1 ?_
        refine normal_block ?_
        have hs270 := St.f1 hs96
        have hs271 := St.f2 hs270
        have hs272 := St.f5 hs271
        have hs273 := St.f5 hs272
        have hs274 := St.f5 hs273
        exact ⟨1, slots_intro _ (by kernel_rfl), hs274, hm⟩
       ·
        have h269p : ¬ ((q53.getD r75.toNat false) = true) := ne_true_of_eq_false h269
        replace hm := ite_no hm h269p
        refine W.skip ?_
        refine normal_block ?_
        have hs275 := St.f1 hs96
        have hs276 := St.f2 hs275
        have hs277 := St.f5 hs276
        have hs278 := St.f5 hs277
        have hs279 := St.f5 hs278
        exact ⟨0, slots_intro _ (by kernel_rfl), hs279, hm⟩
   ·
    obtain ⟨h63p, hm⟩ := iN hm h63
    refine W.exit (exit_seq (exit_seq (exit_here ?_)))
    refine hK46 _ _ ?_
    refine W.sr fun K280 hK280 => ?_
    obtain ⟨r281, h282, hm⟩ := bind_some hm
    refine zC00 hs58 (works11_walk (hG2 := hG2) (hL := (hs58.oldCells hL)) (hm := h282) B _) fun w283 hs285 => ?_
    refine zE 1 (hK280 _ _ ?_)
    refine W.ret ?_
    have hs286 := St.tk0 hs285
    refine ret_of (.bool r281) (by kernel_rfl) ⟨_, ⟨congrArg Value.bool (some_inj hm), rfl⟩, hs286⟩

end Go.Proofs.YthimamnblklkbaaDoor

namespace Go.Proofs.YthimamnblklkbaaDoor
open Go Go.RowKit
set_option linter.unusedVariables false
set_option linter.unusedSimpArgs false

theorem great11_few (ss : List TSt11) : Ok (fun b : Bool => b = false → ss.length ≤ 60) (great11_M ss) := by
  unfold great11_M
  refine Ok.ite (fun _ => Ok.some (by simp)) fun h => ?_
  refine Ok.iter (fun p => 0 ≤ p) (fun p => ((ss.length : Int) - p).toNat) ?_ _ _ (by omega) (fuel_lt (by omega))
  intro k p h1 ih
  unfold great11_B0
  refine Ok.ite (fun hp => ?_) (fun _ => Ok.some fun _ => by omega)
  refine Ok.need (by omega) (Ok.ite (fun _ => Ok.some (by simp)) fun _ => Ok.need (by omega) (ih _ (by omega) (by omega)))
theorem works11_stop : Ok (· = true) ((works11_M).bind fun r => some r) := by
  rw [works11_eq]
  exact Ok.some rfl
theorem least536 : (fmtW 1 (2 + 0 % 20) (2 + 0 % 60)).length = 536 := by decide +kernel
theorem least_noughts : ∀ j : Nat, j < 264 → 8 ≤ j → (fmtW 1 (2 + 0 % 20) (2 + 0 % 60)).getD j 0 = 0 := by decide +kernel
theorem begun_in {s : Int} (hs : 0 ≤ s ∧ s < 4) : ∃ fl, begun11_M s = some fl ∧ fl.length = 536 ∧ (∀ x ∈ fl, U64 x) ∧ vget fl [] (sessAt s) = 1 ∧ vget fl [] (sessAt s + 1) = 1 ∧ vget fl [] (sessAt s + 2) = 0 ∧ ∀ k : Int, 0 ≤ k ∧ k < 4 → vget fl [] (slotAt s k) = 0 := by
  have hlen := least536
  have hz := least_noughts
  have hu : ∀ x ∈ fmtW 1 (2 + 0 % 20) (2 + 0 % 60), U64 x := fmtW_u64
  unfold begun11_M
  generalize fmtW 1 (2 + 0 % 20) (2 + 0 % 60) = F at *
  have hJ := VJ.start hu (by omega)
  have h0 : ∀ k : Int, 0 ≤ k ∧ k < 4 → thereF F s k = 0 := fun k hk => thereF_in hs hk (by omega)
  have ht := thereF_zero (h0 0 (by omega))
  have w : ∀ j : Int, 8 ≤ j ∧ j < 264 → vget F [] j = 0 := fun j hj => by
    obtain ⟨k, rfl⟩ := Int.eq_ofNat_of_zero_le (show 0 ≤ j by omega)
    rw [vget_nil (by omega)]
    exact hz k (by omega) (by omega)
  have hG := getF_in (o := false) (h0 0 (by omega)) (by rw [w _ (by omega)]; rfl)
  rw [w _ (by omega), w _ (by omega)] at hG
  obtain ⟨m1, e1, v1, l1, g1⟩ := putF_in (o := true) (g := 1) (k := 0) hJ (h0 0 (by omega)) (by unfold U64; omega) u64_zero (by simp)
  have hin := wipeL_in hs
  simp only [List.length_nil] at l1
  obtain ⟨m2, e2, v2, l2, g2⟩ := vsets_in (wipeL s) m1 v1 (fun p hp => ⟨by have := hin p hp; omega, by rw [(hin p hp).2]; exact u64_zero⟩) (by simp [wipeL]; omega)
  have ew : wipeF F m1 s = (0, m2) := by unfold wipeF; rw [if_pos (h0 0 (by omega)), e2]
  have er : copen_M F [] s 1 = some (0, 0, m2) := by
    rw [copen_eq hJ.1]
    unfold ropen_M
    rw [if_neg (by omega), if_neg (by omega), rget10_eq, hG]
    simp only [Option.bind, if_true, Bool.false_eq_true, if_false]
    unfold ropen_J1
    simp only [Bool.false_eq_true, if_false]
    rw [if_neg (by omega), if_pos (by omega), rput10_eq, e1]
    simp only [Option.bind, if_true, rwipe10_eq, ew]
  refine ⟨vflat F m2, need_of (by omega) (need_of (by omega) (need_of (by omega) ?_)), (vflat_length F m2).trans hlen, u64_flat v2.2 v2.1, ?_, ?_, ?_, fun k hk => ?_⟩
  · rw [er]
    simp only [Option.bind, if_true]
  all_goals rw [vget_flat v2.2, g2]
  · rw [said_out fun p hp => by have := hin p hp; omega, g1]
    simp only [said, if_true]
    rw [if_neg (by omega), if_neg (by omega)]
  · rw [said_out fun p hp => by have := hin p hp; omega, g1]
    simp only [said, if_true]
    rw [if_neg (by omega)]
  · rw [said_out fun p hp => by have := hin p hp; omega, g1]
    simp only [said, if_true]
  · refine said_mem ⟨(slotAt s k, 0), ?_, rfl⟩ fun p hp _ => (hin p hp).2
    have : k = 0 ∨ k = 1 ∨ k = 2 ∨ k = 3 := by omega
    unfold wipeL
    rcases this with rfl | rfl | rfl | rfl <;> simp

structure Once (s : Int) (flat : List Int) (mark : Int) (had : List TRe) (is : List Bool) : Prop where
  len : flat.length = 536
  u64 : ∀ x ∈ flat, U64 x
  opened : vget flat [] (sessAt s) = 1
  gen : vget flat [] (sessAt s + 1) = 1
  mkw : vget flat [] (sessAt s + 2) = mark
  mr : 0 ≤ mark ∧ mark ≤ 70
  hl : had.length = 80
  il : is.length = 80
  err : ∀ k : Int, 0 ≤ k ∧ k < 4 → (loadF flat [] s k).2.2.2.2.2 = 0
  num : ∀ k : Int, 0 ≤ k ∧ k < 4 → (loadF flat [] s k).1 = 0 ∨ ∃ n : Nat, n < 80 ∧ (loadF flat [] s k).1 = (n : Int) ∧ is.getD n false = true
  win : ∀ n : Nat, n < 80 → mark < (n : Int) → is.getD n false = true → (n : Int) ≤ mark + 4
  has : ∀ n : Nat, n < 80 → mark < (n : Int) → is.getD n false = true → loadF flat [] s ((n % 4 : Nat) : Int) = ((n : Int), (had.getD n dRe).c0, (had.getD n dRe).c1, (had.getD n dRe).c2, (had.getD n dRe).c3, 0)
theorem Once.iff {s mark : Int} {flat : List Int} {had : List TRe} {is : List Bool} (h : Once s flat mark had is) {n : Nat} (hn : n < 80) (h1 : mark < (n : Int)) : (loadF flat [] s ((n % 4 : Nat) : Int)).1 = (n : Int) ↔ is.getD n false = true := by
  have hm := h.mr
  constructor
  · intro e
    rcases h.num ((n % 4 : Nat) : Int) (by omega) with h0 | ⟨n', _, e', hi⟩
    · omega
    · obtain rfl : n' = n := by omega
      exact hi
  · intro hi
    rw [h.has n hn h1 hi]
theorem once_start {s : Int} {fl : List Int} (hs : 0 ≤ s ∧ s < 4) (hlen : fl.length = 536) (hu : ∀ x ∈ fl, U64 x) (h0 : vget fl [] (sessAt s) = 1) (h1 : vget fl [] (sessAt s + 1) = 1) (h2 : vget fl [] (sessAt s + 2) = 0) (hz : ∀ k : Int, 0 ≤ k ∧ k < 4 → vget fl [] (slotAt s k) = 0) :
    Once s fl 0 (List.replicate 80 dRe) (List.replicate 80 false) := by
  have hl : ∀ k : Int, 0 ≤ k ∧ k < 4 → loadF fl [] s k = (0, 0, 0, 0, ByteArray.empty, 0) := fun k hk => by
    unfold loadF
    rw [if_pos (thereF_in hs hk (by omega)), if_pos (hz k hk)]
  have hf : ∀ n : Nat, ¬ ((List.replicate 80 false).getD n false = true) := fun n => by
    rw [List.getD_eq_getElem?_getD, List.getElem?_replicate]
    split <;> simp
  exact ⟨hlen, hu, h0, h1, h2, by omega, by simp, by simp, fun k hk => by rw [hl k hk], fun k hk => .inl (by rw [hl k hk]), fun n _ _ h => absurd h (hf n), fun n _ _ h => absurd h (hf n)⟩
theorem Once.save {s mark : Int} {flat : List Int} {had : List TRe} {is : List Bool} (h : Once s flat mark had is) (hs : 0 ≤ s ∧ s < 4) {n : Nat} (hn : 1 ≤ n ∧ n ≤ 70) (hw : mark < (n : Int) ∧ (n : Int) ≤ mark + 4) {re ra rb : Int} {rs : ByteArray} (hm : mayF re rs = true) (ha : U64 ra) (hb : U64 rb) :
    ∃ m, saveF flat [] s ((n % 4 : Nat) : Int) (n : Int) re ra rb rs = (0, m) ∧ Once s (vflat flat m) mark (had.set n ⟨re, ra, rb, rs⟩) (is.set n true) := by
  have hlen := h.len
  have hJ := VJ.start h.u64 (by omega)
  have h0 : ∀ k : Int, 0 ≤ k ∧ k < 4 → thereF flat s k = 0 := fun k hk => thereF_in hs hk (by omega)
  have ht := thereF_zero (h0 ((n % 4 : Nat) : Int) (by omega))
  have hmr := h.mr
  have hhl := h.hl
  have hil := h.il
  obtain ⟨m, em, vm, lm, sm, fm, _⟩ := save_in hJ (h0 ((n % 4 : Nat) : Int) (by omega)) (q := (n : Int)) (by omega) hm ha hb (by simp)
  have hload := load_saved (h0 ((n % 4 : Nat) : Int) (by omega)) (by omega) hm sm
  have hfl := vflat_length flat m
  have hown : loadF (vflat flat m) [] s ((n % 4 : Nat) : Int) = ((n : Int), re, ra, rb, rs, 0) := by
    rw [← hload]
    exact loadF_congr hfl fun j _ => vget_flat vm.2 j
  have hoth : ∀ k : Int, 0 ≤ k ∧ k < 4 → ¬ k = ((n % 4 : Nat) : Int) → loadF (vflat flat m) [] s k = loadF flat [] s k := fun k hk hne => by
    have hk2 := thereF_zero (h0 k hk)
    exact loadF_congr hfl fun j hj => by rw [vget_flat vm.2, fm j (by omega)]
  have hset : ∀ j, (is.set n true).getD j false = if n = j then true else is.getD j false := fun j => by
    simp only [List.getD_eq_getElem?_getD, List.getElem?_set]
    by_cases e : n = j
    · rw [if_pos e, if_pos e, if_pos (by omega)]; rfl
    · rw [if_neg e, if_neg e]
  have hset2 : ∀ j, (had.set n ⟨re, ra, rb, rs⟩).getD j dRe = if n = j then ⟨re, ra, rb, rs⟩ else had.getD j dRe := fun j => by
    simp only [List.getD_eq_getElem?_getD, List.getElem?_set]
    by_cases e : n = j
    · rw [if_pos e, if_pos e, if_pos (by omega)]; rfl
    · rw [if_neg e, if_neg e]
  have hsess := sess_range s
  refine ⟨m, em, ⟨by omega, u64_flat vm.2 vm.1, ?_, ?_, ?_, h.mr, by simp [h.hl], by simp [h.il], fun k hk => ?_, fun k hk => ?_, fun j hj hj1 hj2 => ?_, fun j hj hj1 hj2 => ?_⟩⟩
  · rw [vget_flat vm.2, fm _ (by omega)]; exact h.opened
  · rw [vget_flat vm.2, fm _ (by omega)]; exact h.gen
  · rw [vget_flat vm.2, fm _ (by omega)]; exact h.mkw
  · by_cases e : k = ((n % 4 : Nat) : Int)
    · rw [e, hown]
    · rw [hoth k hk e]; exact h.err k hk
  · by_cases e : k = ((n % 4 : Nat) : Int)
    · rw [e, hown]
      exact .inr ⟨n, by omega, rfl, by rw [hset, if_pos rfl]⟩
    · rw [hoth k hk e]
      rcases h.num k hk with h1 | ⟨n', h1, h2, h3⟩
      · exact .inl h1
      · refine .inr ⟨n', h1, h2, ?_⟩
        rw [hset]
        split
        · rfl
        · exact h3
  · rw [hset] at hj2
    by_cases e : n = j
    · omega
    · rw [if_neg e] at hj2
      exact h.win j hj hj1 hj2
  · rw [hset] at hj2
    rw [hset2]
    by_cases e : n = j
    · subst e
      rw [if_pos rfl, hown]
    · rw [if_neg e] at hj2 ⊢
      have hw2 := h.win j hj hj1 hj2
      rw [hoth _ (by omega) (by omega)]
      exact h.has j hj hj1 hj2
theorem Once.ack {s mark : Int} {flat : List Int} {had : List TRe} {is : List Bool} (h : Once s flat mark had is) (hs : 0 ≤ s ∧ s < 4) {n to_ : Int} (hn : 1 ≤ n ∧ n ≤ 70) (h1 : mark ≤ to_ ∧ (to_ ≤ n ∨ to_ = mark)) (h2 : ∀ j : Nat, mark < (j : Int) → (j : Int) ≤ to_ → is.getD j false = true) (h3 : to_ < n → ¬ is.getD (to_ + 1).toNat false = true) :
    ∃ m, cack_M flat [] s 1 n = some (to_, 0, m) ∧ Once s (vflat flat m) to_ had is := by
  have hlen := h.len
  have hJ := VJ.start h.u64 (by omega)
  have h0 : ∀ k : Int, 0 ≤ k ∧ k < 4 → thereF flat s k = 0 := fun k hk => thereF_in hs hk (by omega)
  have ht := thereF_zero (h0 0 (by omega))
  have hmr := h.mr
  have hG := getF_in (o := true) (h0 0 (by omega)) (h.opened.trans rfl)
  rw [h.gen, h.mkw] at hG
  obtain ⟨m, em, vm, lm, gm⟩ := putF_in (o := true) (g := 1) (k := to_) hJ (h0 0 (by omega)) (by unfold U64; omega) (by unfold U64; omega) (by simp)
  have hsess := sess_range s
  have hfl := vflat_length flat m
  have hoth : ∀ k : Int, 0 ≤ k ∧ k < 4 → loadF (vflat flat m) [] s k = loadF flat [] s k := fun k hk => by
    have hk2 := thereF_zero (h0 k hk)
    refine loadF_congr hfl fun j hj => ?_
    rw [vget_flat vm.2, gm]
    simp only [said]
    rw [if_neg (by omega), if_neg (by omega), if_neg (by omega)]
  refine ⟨m, ?_, ⟨by omega, u64_flat vm.2 vm.1, ?_, ?_, ?_, by omega, h.hl, h.il, fun k hk => by rw [hoth k hk]; exact h.err k hk, fun k hk => by rw [hoth k hk]; exact h.num k hk, fun j hj hj1 hj2 => ?_, fun j hj hj1 hj2 => ?_⟩⟩
  · rw [cack_eq hJ.1 s 1 (by omega)]
    unfold rack_M
    rw [if_neg (by omega), ropened_eq]
    unfold openedF
    rw [hG]
    simp only [Option.bind, if_true]
    have J1 : rack_J1 flat [] s (true, 1, mark, 0) to_ = some (to_, 0, m) := by
      unfold rack_J1
      rw [rput10_eq, em]
      simp only [Option.bind, if_true]
    refine iter_run (fun p => mark ≤ p ∧ p ≤ to_) (fun p => (to_ - p).toNat) ?_ _ _ (by omega) (fuel_lt (by omega))
    intro k p hp ih
    unfold rack_B0
    by_cases c : p < n
    · rw [if_pos c]
      have e1 : (p + 1) % 18446744073709551616 = p + 1 := by omega
      have h4 := Int.tmod_eq_emod_of_nonneg (a := p + 1) (b := 4) (by omega)
      rw [e1, h4]
      refine need_of (by omega) ?_
      rw [rload_eq hJ.1]
      simp only [Option.bind]
      rw [if_pos (h.err _ (by omega))]
      have hiff := h.iff (n := (p + 1).toNat) (by omega) (by omega)
      rw [show (((p + 1).toNat % 4 : Nat) : Int) = (p + 1) % 4 by omega, show (((p + 1).toNat : Nat) : Int) = p + 1 by omega] at hiff
      by_cases c2 : p = to_
      · subst c2
        rw [if_neg (fun e => h3 c (hiff.1 e))]
        exact J1
      · rw [if_pos (hiff.2 (h2 _ (by omega) (by omega)))]
        exact ih _ (by omega) (by omega)
    · rw [if_neg c, show p = to_ by omega]
      exact J1
  · rw [vget_flat vm.2, gm]
    simp only [said, if_true]
    rw [if_neg (by omega), if_neg (by omega)]
  · rw [vget_flat vm.2, gm]
    simp only [said, if_true]
    rw [if_neg (by omega)]
  · rw [vget_flat vm.2, gm]
    simp only [said, if_true]
  · have := h.win j hj (by omega) hj2
    omega
  · rw [hoth _ (by omega)]
    exact h.has j hj (by omega) hj2
theorem rise (is : List Bool) (n : Int) : ∀ (d : Nat) (p : Int), 0 ≤ p → (n - p).toNat ≤ d → ∃ to_, p ≤ to_ ∧ (to_ ≤ n ∨ to_ = p) ∧ (∀ j : Nat, p < (j : Int) → (j : Int) ≤ to_ → is.getD j false = true) ∧ (to_ < n → ¬ is.getD (to_ + 1).toNat false = true)
  | 0, p, h0, h => ⟨p, by omega, .inr rfl, fun j h1 h2 => by omega, fun h1 => by omega⟩
  | d + 1, p, h0, h => by
    by_cases c : p < n
    · by_cases c2 : is.getD (p + 1).toNat false = true
      · obtain ⟨t, t1, t2, t3, t4⟩ := rise is n d (p + 1) (by omega) (by omega)
        refine ⟨t, by omega, by omega, fun j h1 h2 => ?_, t4⟩
        by_cases e : (j : Int) = p + 1
        · rw [show j = (p + 1).toNat by omega]; exact c2
        · exact t3 j (by omega) h2
      · exact ⟨p, by omega, .inr rfl, fun j h1 h2 => by omega, fun _ => c2⟩
    · exact ⟨p, by omega, .inr rfl, fun j h1 h2 => by omega, fun h1 => by omega⟩

theorem classonce_law {i_ : Int} {ss : List TSt11} (hi : 0 ≤ i_ ∧ i_ ≤ 255) (hs : ∀ x ∈ ss, good_St11 x) : classonce_M i_ ss = some true := by
  refine Ok.true ?_
  have hs4 := Int.tmod_eq_emod_of_nonneg (b := 4) hi.1
  have hir : 0 ≤ i_.tmod 4 ∧ i_.tmod 4 < 4 := by omega
  unfold classonce_M
  refine Ok.bind (great11_few ss) fun b hb => ?_
  refine Ok.ite (fun _ => works11_stop) fun hb2 => ?_
  have h60 := hb (by simpa using hb2)
  refine Ok.need (by omega) ?_
  obtain ⟨fl, ef, hf1, hf2, hf3, hf4, hf5, hf6⟩ := begun_in hir
  rw [ef]
  simp only [Option.bind]
  refine Ok.no (by omega) ?_
  refine Ok.iter (fun t => Once (i_.tmod 4) t.1 t.2.1 t.2.2.1 t.2.2.2.1 ∧ 0 ≤ t.2.2.2.2) (fun t => ((ss.length : Int) - t.2.2.2.2).toNat) ?_ _ _ ⟨once_start hir hf1 hf2 hf3 hf4 hf5 hf6, by simp⟩ (fuel_lt (by simp only; omega))
  rintro k ⟨q, mark, had, is, p⟩ ⟨h, h3⟩ ih
  simp only at h h3 ih
  unfold classonce_B0
  simp only
  refine Ok.ite (fun hp => ?_) (fun _ => works11_stop)
  have hgx : good_St11 (ss.getD p.toNat dSt11) := by
    have hpn : p.toNat < ss.length := by omega
    have : ss.getD p.toNat dSt11 ∈ ss := by simp [List.getD, hpn]
    exact hs _ this
  have hlen := h.len
  have hmr := h.mr
  have hhl := h.hl
  have hil := h.il
  refine Ok.need (by omega) (Ok.name fun n hn => ?_)
  have hJ := VJ.start h.u64 (by omega)
  have h70 := Int.tmod_eq_emod_of_nonneg (a := (ss.getD p.toNat dSt11).c3) (b := 70) hgx.2.2.2.1.1
  have hn1 : 1 ≤ n ∧ n ≤ 70 := by omega
  clear hn
  obtain ⟨nn, rfl⟩ := Int.eq_ofNat_of_zero_le (show 0 ≤ n by omega)
  have h0 : ∀ k : Int, 0 ≤ k ∧ k < 4 → thereF q (i_.tmod 4) k = 0 := fun k hk => thereF_in hir hk (by omega)
  have hn4 := Int.tmod_eq_emod_of_nonneg (a := (nn : Int)) (b := 4) (by omega)
  refine Ok.need (by omega) ?_
  rw [cof_eq hJ.1, rof_in hJ.1 (h0 0 (by omega)) h.opened h.gen (by omega), h.mkw, hn4, show ((nn : Int) % 4) = ((nn % 4 : Nat) : Int) by omega, if_pos (h.err _ (by omega))]
  simp only [Option.bind]
  have J5 : ∀ (m : List (Int × Int)) (mark' : Int) (had' : List TRe) (is' : List Bool), Once (i_.tmod 4) (vflat q m) mark' had' is' → Ok (· = true) (classonce_J5 k q p had' is' mark' m) := by
    intro m mark' had' is' h'
    unfold classonce_J5
    have := vflat_length q m
    exact Ok.yes (by omega) (Ok.need (by omega) (ih _ ⟨h', by simp only; omega⟩ (by simp only; omega)))
  have same : vflat q [] = q := rfl
  have J4 : Ok (· = true) (classonce_J4 i_ ss k q mark p (nn : Int) had is []) := by
    unfold classonce_J4
    refine Ok.ite (fun _ => ?_) (fun _ => J5 [] mark had is h)
    obtain ⟨t, t1, t2, t3, t4⟩ := rise is (nn : Int) ((nn : Int) - mark).toNat mark (by omega) (by omega)
    obtain ⟨m, em, hm⟩ := h.ack hir (n := (nn : Int)) hn1 ⟨t1, t2⟩ t3 t4
    have J6 : Ok (· = true) (classonce_J6 i_ k q p (nn : Int) had is [] t) := by
      unfold classonce_J6
      rw [em]
      simp only [Option.bind]
      exact Ok.yes (by simp) (Ok.yes (by simp) (J5 m t had is hm))
    refine Ok.iter (fun z => mark ≤ z ∧ z ≤ t) (fun z => (t - z).toNat) ?_ _ _ (by omega) (fuel_lt (by omega))
    intro kk z hz ihz
    unfold classonce_B1
    refine Ok.ite (fun c => ?_) (fun c => ?_)
    · have e1 : (z + 1) % 18446744073709551616 = z + 1 := by omega
      rw [e1]
      refine Ok.need (by omega) (Ok.need (by omega) ?_)
      by_cases c2 : z = t
      · subst c2
        exact Ok.no (t4 c) J6
      · refine Ok.yes (t3 _ (by omega) (by omega)) (Ok.name fun z' hz' => ?_)
        subst hz'
        exact ihz _ (by omega) (by omega)
    · rw [show z = t by omega]
      exact J6
  have J8 : ∀ b : Bool, (b = true → (ss.getD p.toNat dSt11).c0.tmod 2 = 0 ∧ (mark < (nn : Int) ∧ (nn : Int) ≤ mark + 4) ∧ mayF (ss.getD p.toNat dSt11).c4 (ss.getD p.toNat dSt11).c7 = true) → Ok (· = true) (classonce_J8 i_ ss k q mark had is p (nn : Int) b) := by
    intro b hb
    unfold classonce_J8
    refine Ok.ite (fun c => ?_) (fun _ => J4)
    obtain ⟨b1, b2, b3⟩ := hb c
    obtain ⟨g0, g1, g2, g3, g4, g5, g6⟩ := hgx
    obtain ⟨m, em, hm⟩ := h.save hir (n := nn) (by omega) b2 b3 (ra := (ss.getD p.toNat dSt11).c5) (rb := (ss.getD p.toNat dSt11).c6) (by unfold U64; omega) (by unfold U64; omega)
    rw [hn4, show ((nn : Int) % 4) = ((nn % 4 : Nat) : Int) by omega]
    refine Ok.need (by omega) ?_
    rw [ssave_eq, em]
    simp only [Option.bind]
    refine Ok.yes (by simp) (Ok.need (by omega) (Ok.need (by omega) (Ok.need (by omega) (Ok.need (by omega) ?_))))
    unfold classonce_J4
    refine Ok.no (by omega) (J5 m mark _ _ ?_)
    rw [Int.toNat_natCast]
    exact hm
  have J3 : ∀ r : Int × Int × Int × Int × ByteArray × Int, (r.1 = 0 → mark < (nn : Int) ∧ (nn : Int) ≤ mark + 4) → Ok (· = true) (classonce_J3 i_ ss k q mark had is p (nn : Int) r) := by
    intro r hr
    unfold classonce_J3
    refine Ok.ite (fun c => ?_) (fun _ => J8 false (by simp))
    refine Ok.ite (fun c2 => ?_) (fun _ => J8 false (by simp))
    rw [smay_eq]
    exact J8 _ fun hm => ⟨c, hr c2, hm⟩
  have J2 : ∀ (r : Int × Int × Int × Int × ByteArray × Int) (w : Int), r.2.2.2.2.2 = 0 → r.1 = w → (w = 0 → mark < (nn : Int) ∧ (nn : Int) ≤ mark + 4) → (w = 1 → r.2.1 = (had.getD nn dRe).c0 ∧ r.2.2.1 = (had.getD nn dRe).c1 ∧ r.2.2.2.1 = (had.getD nn dRe).c2 ∧ r.2.2.2.2.1 = (had.getD nn dRe).c3) →
      (¬ w = 1 → r.2.1 = 0 ∧ r.2.2.1 = 0 ∧ r.2.2.2.1 = 0 ∧ r.2.2.2.2.1 = ByteArray.empty) → Ok (· = true) (classonce_J2 i_ ss k q mark had is p (nn : Int) r w) := by
    intro r w r1 r2 r3 r4 r5
    unfold classonce_J2
    have j := J3 r (fun e => r3 (by omega))
    refine Ok.yes r1 (Ok.yes r2 (Ok.ite (fun c => ?_) fun c => ?_))
    · rw [Int.toNat_natCast]
      exact Ok.need (by omega) (Ok.need (by omega) (Ok.yes (r4 (by omega)) (Ok.yes c j)))
    · exact Ok.no c (Ok.yes (r5 (by omega)) j)
  have hm4 : (mark + 4) % 18446744073709551616 = mark + 4 := by omega
  rw [hm4]
  refine Ok.ite (fun c1 => ?_) (fun c1 => ?_)
  · rw [if_pos c1]
    exact J2 _ 2 rfl rfl (by omega) (by omega) fun _ => ⟨rfl, rfl, rfl, rfl⟩
  rw [if_neg c1]
  refine Ok.ite (fun c2 => ?_) (fun c2 => ?_)
  · rw [if_pos (by omega)]
    exact J2 _ 3 rfl rfl (by omega) (by omega) fun _ => ⟨rfl, rfl, rfl, rfl⟩
  rw [if_neg (show ¬ ((nn : Int) - mark) % 18446744073709551616 > 4 by omega)]
  have hiff := h.iff (n := nn) (by omega) (by omega)
  rw [Int.toNat_natCast]
  refine Ok.need (by omega) (Ok.need (by omega) (Ok.ite (fun c3 => ?_) (fun c3 => ?_)))
  · rw [if_pos (hiff.2 c3), h.has nn (by omega) (by omega) c3]
    exact J2 _ 1 rfl rfl (by omega) (fun _ => ⟨rfl, rfl, rfl, rfl⟩) (fun e => absurd rfl e)
  · rw [if_neg (fun e => c3 (hiff.1 e))]
    exact J2 _ 0 rfl rfl (fun _ => by omega) (by omega) fun _ => ⟨rfl, rfl, rfl, rfl⟩
end Go.Proofs.YthimamnblklkbaaDoor

namespace Go.Proofs.YthimamnblklkbaaDoor
open Go.ChangeShapes Go.WideShapes Go.ChangeAt Go.RowKit Go.Deep

inductive Leaf where
  | int (k : IntKind)
  | bool

def LeafOk : Leaf → Value → Prop
  | .int k, v => ∃ z, v = .int k z ∧ (Lit.int k z).wf = true
  | .bool, v => ∃ b, v = .bool b

def LeavesOk : List Leaf → List Value → Prop
  | [], [] => True
  | k :: ks, v :: vs => LeafOk k v ∧ LeavesOk ks vs
  | _, _ => False

theorem LeavesOk.append : ∀ {ks ks' : List Leaf} {vs vs' : List Value}, LeavesOk ks vs → LeavesOk ks' vs' → LeavesOk (ks ++ ks') (vs ++ vs')
  | [], _, [], _, _, h => h
  | _ :: _, _, _ :: _, _, h, h' => ⟨h.1, LeavesOk.append h.2 h'⟩

def leavesF (P : Program) (lv : TypeId → Option (List Leaf)) : Nat → List Field → Option (List Leaf)
  | _, [] => some []
  | off, f :: fs => match lv f.type with
    | some l => if f.offset = off ∧ P.cellsOf f.type = l.length then (leavesF P lv (off + l.length) fs).map (l ++ ·) else none
    | none => none

def leaves (P : Program) : Nat → TypeId → Option (List Leaf)
  | 0, _ => none
  | m + 1, t => match P.underlying t with
    | some (.int k) => some [.int k]
    | some .bool => some [.bool]
    | some (.struct fs) => match leavesF P (leaves P m) 0 fs.toList with
      | some ks => if P.cellsOf t = ks.length then some ks else none
      | none => none
    | some (.array n e) => match leaves P m e with
      | some l => if P.cellsOf e = l.length ∧ P.cellsOf t = n * l.length then some ((List.replicate n l).flatten) else none
      | none => none
    | _ => none

section
variable {H : Type} {enc : TypeId × Value → H} {P : Program} {w : World} {base : Nat} {sp : Nat → Bool} {held : Bool}

theorem leavesF_ok {lv : TypeId → Option (List Leaf)} (hlv : ∀ (t : TypeId) (ks : List Leaf) (n : Nat) (cs : List Value) (y : DataW H × List MemPlace), lv t = some ks → DataW.trod enc P w base sp held n t cs = some y → LeavesOk ks cs) {cs : List Value} :
    ∀ (fs : List Field) (off : Nat) (ks : List Leaf), leavesF P lv off fs = some ks → (∀ (i : Nat) (f : Field), fs[i]? = some f → ∃ n y, DataW.trod enc P w base sp held n f.type ((cs.drop f.offset).take (P.cellsOf f.type)) = some y) →
      LeavesOk ks ((cs.drop off).take ks.length)
  | [], off, ks, h, _ => by
    simp only [leavesF, Option.some.injEq] at h
    subst h
    simp [LeavesOk]
  | f :: fs, off, ks, h, ht => by
    unfold leavesF at h
    split at h
    · rename_i l hl
      split at h
      · rename_i hc
        simp only [Option.map_eq_some_iff] at h
        obtain ⟨ks', hk', rfl⟩ := h
        obtain ⟨n, y, hy⟩ := ht 0 f rfl
        rw [hc.1, hc.2] at hy
        have h1 := hlv _ _ _ _ _ hl hy
        have h2 := leavesF_ok hlv fs (off + l.length) ks' hk' (fun i g hg => ht (i + 1) g (by simpa using hg))
        have e : (cs.drop off).take (l ++ ks').length = (cs.drop off).take l.length ++ (cs.drop (off + l.length)).take ks'.length := by
          rw [List.length_append, List.take_add, List.drop_drop]
        rw [e]
        exact h1.append h2
      · cases h
    · cases h

theorem leavesA_ok {l : List Leaf} {cs : List Value} : ∀ n : Nat, (∀ i, i < n → LeavesOk l ((cs.drop (i * l.length)).take l.length)) → LeavesOk ((List.replicate n l).flatten) (cs.take (n * l.length))
  | 0, _ => by simp [LeavesOk]
  | n + 1, h => by
    have h1 := leavesA_ok n (fun i hi => h i (by omega))
    have h2 := h n (by omega)
    have e1 : (List.replicate (n + 1) l).flatten = (List.replicate n l).flatten ++ l := by
      rw [List.replicate_succ', List.flatten_append]
      simp
    have e2 : cs.take ((n + 1) * l.length) = cs.take (n * l.length) ++ (cs.drop (n * l.length)).take l.length := by
      rw [Nat.add_mul, Nat.one_mul, List.take_add]
    rw [e1, e2]
    exact h1.append h2

theorem leaves_ok : ∀ (m : Nat) (t : TypeId) (ks : List Leaf) (n : Nat) (cs : List Value) (y : DataW H × List MemPlace), leaves P m t = some ks → DataW.trod enc P w base sp held n t cs = some y → LeavesOk ks cs
  | 0, t, ks, n, cs, y, h, _ => by simp [leaves] at h
  | m + 1, t, ks, n, cs, y, h, hy => by
    unfold leaves at h
    split at h
    · rename_i k hu
      cases h
      obtain ⟨z, rfl, _, hz⟩ := DataW.trod_int hu hy
      exact ⟨⟨z, rfl, hz⟩, trivial⟩
    · rename_i hu
      cases h
      cases n with
      | zero => simp [DataW.trod] at hy
      | succ n =>
        unfold DataW.trod at hy
        rw [hu] at hy
        split at hy <;> simp_all [LeavesOk, LeafOk]
    · rename_i fs hu
      split at h
      · rename_i ks' hks
        split at h
        · rename_i hc
          cases h
          obtain ⟨xs, n', rfl, _, hlen, hxl, hf⟩ := DataW.trod_struct hu hy
          have h1 := leavesF_ok (cs := cs) (leaves_ok m) fs.toList 0 _ hks (fun i f hi => by
            have hi' : fs[i]? = some f := by simpa using hi
            have := hf i f hi'
            have hil : i < xs.length := by rw [hxl]; exact (Array.getElem?_eq_some_iff.1 hi').1
            rw [List.getElem?_eq_getElem hil] at this
            exact ⟨_, _, this⟩)
          simpa [← hc, ← hlen] using h1
        · cases h
      · cases h
    · rename_i k e hu
      split at h
      · rename_i l hl
        split at h
        · rename_i hc
          cases h
          obtain ⟨xs, n', rfl, _, hlen, hxl, hf⟩ := DataW.trod_array hu hy
          have h1 := leavesA_ok (l := l) (cs := cs) k (fun i hi => by
            have := hf i hi
            have hil : i < xs.length := by rw [hxl]; exact hi
            rw [List.getElem?_eq_getElem hil, hc.1] at this
            exact leaves_ok m _ _ _ _ _ hl this)
          simpa [← hc.2, ← hlen] using h1
        · cases h
      · cases h
    · cases h

end
theorem leaves_cons {k : Leaf} {ks : List Leaf} : ∀ {cs : List Value}, LeavesOk (k :: ks) cs → ∃ v vs, cs = v :: vs ∧ LeafOk k v ∧ LeavesOk ks vs
  | v :: vs, h => ⟨v, vs, rfl, h.1, h.2⟩
  | [], h => h.elim
theorem leaves_nil : ∀ {cs : List Value}, LeavesOk [] cs → cs = []
  | [], _ => rfl
  | _ :: _, h => h.elim
end Go.Proofs.YthimamnblklkbaaDoor

namespace Go.Proofs.YthimamnblklkbaaDoor
namespace WithText
open Go.ChangeShapes Go.WideShapes Go.ChangeAt Go.RowKit Go.Deep

inductive Leaf where
  | int (k : IntKind)
  | bool
  | string

def LeafOk : Leaf → Value → Prop
  | .int k, v => ∃ z, v = .int k z ∧ (Lit.int k z).wf = true
  | .bool, v => ∃ b, v = .bool b
  | .string, v => ∃ b, v = .string b ∧ b.size ≤ maxLen

def LeavesOk : List Leaf → List Value → Prop
  | [], [] => True
  | k :: ks, v :: vs => LeafOk k v ∧ LeavesOk ks vs
  | _, _ => False

theorem LeavesOk.append : ∀ {ks ks' : List Leaf} {vs vs' : List Value}, LeavesOk ks vs → LeavesOk ks' vs' → LeavesOk (ks ++ ks') (vs ++ vs')
  | [], _, [], _, _, h => h
  | _ :: _, _, _ :: _, _, h, h' => ⟨h.1, LeavesOk.append h.2 h'⟩

def leavesF (P : Program) (lv : TypeId → Option (List Leaf)) : Nat → List Field → Option (List Leaf)
  | _, [] => some []
  | off, f :: fs => match lv f.type with
    | some l => if f.offset = off ∧ P.cellsOf f.type = l.length then (leavesF P lv (off + l.length) fs).map (l ++ ·) else none
    | none => none

def leaves (P : Program) : Nat → TypeId → Option (List Leaf)
  | 0, _ => none
  | m + 1, t => match P.underlying t with
    | some (.int k) => some [.int k]
    | some .bool => some [.bool]
    | some .string => some [.string]
    | some (.struct fs) => match leavesF P (leaves P m) 0 fs.toList with
      | some ks => if P.cellsOf t = ks.length then some ks else none
      | none => none
    | some (.array n e) => match leaves P m e with
      | some l => if P.cellsOf e = l.length ∧ P.cellsOf t = n * l.length then some ((List.replicate n l).flatten) else none
      | none => none
    | _ => none

section
variable {H : Type} {enc : TypeId × Value → H} {P : Program} {w : World} {base : Nat} {sp : Nat → Bool} {held : Bool}

theorem leavesF_ok {lv : TypeId → Option (List Leaf)} (hlv : ∀ (t : TypeId) (ks : List Leaf) (n : Nat) (cs : List Value) (y : DataW H × List MemPlace), lv t = some ks → DataW.trod enc P w base sp held n t cs = some y → LeavesOk ks cs) {cs : List Value} :
    ∀ (fs : List Field) (off : Nat) (ks : List Leaf), leavesF P lv off fs = some ks → (∀ (i : Nat) (f : Field), fs[i]? = some f → ∃ n y, DataW.trod enc P w base sp held n f.type ((cs.drop f.offset).take (P.cellsOf f.type)) = some y) →
      LeavesOk ks ((cs.drop off).take ks.length)
  | [], off, ks, h, _ => by
    simp only [leavesF, Option.some.injEq] at h
    subst h
    simp [LeavesOk]
  | f :: fs, off, ks, h, ht => by
    unfold leavesF at h
    split at h
    · rename_i l hl
      split at h
      · rename_i hc
        simp only [Option.map_eq_some_iff] at h
        obtain ⟨ks', hk', rfl⟩ := h
        obtain ⟨n, y, hy⟩ := ht 0 f rfl
        rw [hc.1, hc.2] at hy
        have h1 := hlv _ _ _ _ _ hl hy
        have h2 := leavesF_ok hlv fs (off + l.length) ks' hk' (fun i g hg => ht (i + 1) g (by simpa using hg))
        have e : (cs.drop off).take (l ++ ks').length = (cs.drop off).take l.length ++ (cs.drop (off + l.length)).take ks'.length := by
          rw [List.length_append, List.take_add, List.drop_drop]
        rw [e]
        exact h1.append h2
      · cases h
    · cases h

theorem leavesA_ok {l : List Leaf} {cs : List Value} : ∀ n : Nat, (∀ i, i < n → LeavesOk l ((cs.drop (i * l.length)).take l.length)) → LeavesOk ((List.replicate n l).flatten) (cs.take (n * l.length))
  | 0, _ => by simp [LeavesOk]
  | n + 1, h => by
    have h1 := leavesA_ok n (fun i hi => h i (by omega))
    have h2 := h n (by omega)
    have e1 : (List.replicate (n + 1) l).flatten = (List.replicate n l).flatten ++ l := by
      rw [List.replicate_succ', List.flatten_append]
      simp
    have e2 : cs.take ((n + 1) * l.length) = cs.take (n * l.length) ++ (cs.drop (n * l.length)).take l.length := by
      rw [Nat.add_mul, Nat.one_mul, List.take_add]
    rw [e1, e2]
    exact h1.append h2

theorem leaves_ok : ∀ (m : Nat) (t : TypeId) (ks : List Leaf) (n : Nat) (cs : List Value) (y : DataW H × List MemPlace), leaves P m t = some ks → DataW.trod enc P w base sp held n t cs = some y → LeavesOk ks cs
  | 0, t, ks, n, cs, y, h, _ => by simp [leaves] at h
  | m + 1, t, ks, n, cs, y, h, hy => by
    unfold leaves at h
    split at h
    · rename_i k hu
      cases h
      obtain ⟨z, rfl, _, hz⟩ := DataW.trod_int hu hy
      exact ⟨⟨z, rfl, hz⟩, trivial⟩
    · rename_i hu
      cases h
      cases n with
      | zero => simp [DataW.trod] at hy
      | succ n =>
        unfold DataW.trod at hy
        rw [hu] at hy
        split at hy <;> simp_all [LeavesOk, LeafOk]
    · rename_i hu
      cases h
      obtain ⟨b, rfl, _, hz⟩ := DataW.trod_string hu hy
      exact ⟨⟨b, rfl, hz⟩, trivial⟩
    · rename_i fs hu
      split at h
      · rename_i ks' hks
        split at h
        · rename_i hc
          cases h
          obtain ⟨xs, n', rfl, _, hlen, hxl, hf⟩ := DataW.trod_struct hu hy
          have h1 := leavesF_ok (cs := cs) (leaves_ok m) fs.toList 0 _ hks (fun i f hi => by
            have hi' : fs[i]? = some f := by simpa using hi
            have := hf i f hi'
            have hil : i < xs.length := by rw [hxl]; exact (Array.getElem?_eq_some_iff.1 hi').1
            rw [List.getElem?_eq_getElem hil] at this
            exact ⟨_, _, this⟩)
          simpa [← hc, ← hlen] using h1
        · cases h
      · cases h
    · rename_i k e hu
      split at h
      · rename_i l hl
        split at h
        · rename_i hc
          cases h
          obtain ⟨xs, n', rfl, _, hlen, hxl, hf⟩ := DataW.trod_array hu hy
          have h1 := leavesA_ok (l := l) (cs := cs) k (fun i hi => by
            have := hf i hi
            have hil : i < xs.length := by rw [hxl]; exact hi
            rw [List.getElem?_eq_getElem hil, hc.1] at this
            exact leaves_ok m _ _ _ _ _ hl this)
          simpa [← hc.2, ← hlen] using h1
        · cases h
      · cases h
    · cases h

end
theorem leaves_cons {k : Leaf} {ks : List Leaf} : ∀ {cs : List Value}, LeavesOk (k :: ks) cs → ∃ v vs, cs = v :: vs ∧ LeafOk k v ∧ LeavesOk ks vs
  | v :: vs, h => ⟨v, vs, rfl, h.1, h.2⟩
  | [], h => h.elim
theorem leaves_nil : ∀ {cs : List Value}, LeavesOk [] cs → cs = []
  | [], _ => rfl
  | _ :: _, h => h.elim
end WithText
end Go.Proofs.YthimamnblklkbaaDoor

namespace Go.Proofs.YthimamnblklkbaaDoor
open Go.ChangeShapes Go.WideShapes Go.ChangeAt Go.RowKit Go.Deep
set_option linter.unusedVariables false

theorem leaf_St11 (cs0 : List Value) (e0 : WithText.LeavesOk [.int .u8, .int .i64, .int .u64, .int .u64, .int .i64, .int .u64, .int .u64, .string, .bool] cs0) : ∃ x, cs0 = kSt11.elem x ∧ good_St11 x := by
  obtain ⟨_, cs1, rfl, ⟨z0, rfl, b0⟩, e1⟩ := WithText.leaves_cons e0
  obtain ⟨_, cs2, rfl, ⟨z1, rfl, b1⟩, e2⟩ := WithText.leaves_cons e1
  obtain ⟨_, cs3, rfl, ⟨z2, rfl, b2⟩, e3⟩ := WithText.leaves_cons e2
  obtain ⟨_, cs4, rfl, ⟨z3, rfl, b3⟩, e4⟩ := WithText.leaves_cons e3
  obtain ⟨_, cs5, rfl, ⟨z4, rfl, b4⟩, e5⟩ := WithText.leaves_cons e4
  obtain ⟨_, cs6, rfl, ⟨z5, rfl, b5⟩, e6⟩ := WithText.leaves_cons e5
  obtain ⟨_, cs7, rfl, ⟨z6, rfl, b6⟩, e7⟩ := WithText.leaves_cons e6
  obtain ⟨_, cs8, rfl, ⟨z7, rfl, _⟩, e8⟩ := WithText.leaves_cons e7
  obtain ⟨_, cs9, rfl, ⟨z8, rfl⟩, e9⟩ := WithText.leaves_cons e8
  obtain rfl := WithText.leaves_nil e9
  simp [Lit.wf, IntKind.min, IntKind.max, IntKind.signed, IntKind.bits] at b0 b1 b2 b3 b4 b5 b6
  refine ⟨⟨z0, z1, z2, z3, z4, z5, z6, z7, z8⟩, rfl, ?_⟩
  simp only [good_St11]
  omega
theorem read_St11 {H : Type} {enc : TypeId × Value → H} {w : World} {base : Nat} {sp : Nat → Bool} (n : Nat) (cs : List Value) (y : DataW H × List MemPlace) (_ : cs.length = kSt11.size) (h : DataW.trod enc Tryd.prog w base sp true n kSt11.e cs = some y) :
    ∃ x, cs = kSt11.elem x ∧ good_St11 x := leaf_St11 cs (WithText.leaves_ok (P := Tryd.prog) 6 kSt11.e [.int .u8, .int .i64, .int .u64, .int .u64, .int .i64, .int .u64, .int .u64, .string, .bool] _ _ _ (by kernel_rfl) h)

end Go.Proofs.YthimamnblklkbaaDoor

namespace Go.Proofs.YthimamnblklkbaaDoor
open Go
set_option maxRecDepth 100000 in
theorem seat_make : (Tryd.prog.make == some Rows.bitmapNilRow.make) = true := by kernel_rfl
end Go.Proofs.YthimamnblklkbaaDoor

namespace Go.Proofs.YthimamnblklkbaaDoor
open Go
set_option maxRecDepth 100000 in
theorem seat_lifted : (Rows.bitmapNilRow.lifted == Tryd.prog.liftsFinal) = true := by kernel_rfl
end Go.Proofs.YthimamnblklkbaaDoor

namespace Go.Proofs.YthimamnblklkbaaDoor
open Go
set_option maxRecDepth 100000 in
theorem seat_enter : Tryd.prog.mayEnter = true := by kernel_rfl
end Go.Proofs.YthimamnblklkbaaDoor

namespace Go.Proofs.YthimamnblklkbaaDoor
open Go Go.RowKit
set_option linter.unusedSimpArgs false
set_option linter.unusedVariables false

set_option maxRecDepth 100000 in
theorem seat_main : Tryd.prog.mainIs = some (true, "3ab6015dd7296eaa053908e3eb4ed2591d5fd4a5803232c1494bf8c197d39bb9".toList) := by kernel_rfl
end Go.Proofs.YthimamnblklkbaaDoor

namespace Go.Proofs.YthimamnblklkbaaDoor
open Go Go.RowKit
set_option linter.unusedSimpArgs false
set_option linter.unusedVariables false

set_option maxRecDepth 100000 in
theorem seat_looks : false = Tryd.prog.looks [] := by kernel_rfl
end Go.Proofs.YthimamnblklkbaaDoor
