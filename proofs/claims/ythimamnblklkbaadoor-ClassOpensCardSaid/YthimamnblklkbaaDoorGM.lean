/- Texts of one kind, one behind the other: A1w, P1w, A1k, AI10, A1g. -/
import Derived.Test.YthimamnblklkbaaDoorGL
import Derived.Test.YthimamnblklkbaaDoorGK
import Derived.Test.YthimamnblklkbaaDoorGI
import Derived.Test.YthimamnblklkbaaDoorGC
set_option linter.unusedVariables false
set_option linter.unusedSimpArgs false
/- What the code computes, by a program. -/
namespace Go.Proofs.YthimamnblklkbaaDoor
open Go Go.RowKit
set_option linter.unusedSimpArgs false
set_option linter.unusedVariables false

def works11_J1 (l98 : List (Int × Int)) : Option (Bool) :=
  (cof_M (fmtW 1 2 2) l98 0 1 1).bind fun r102 =>
(cack_M (fmtW 1 2 2) l98 0 1 3).bind fun r114 =>
(cof_M (fmtW 1 2 2) r114.2.2 0 1 1).bind fun r121 =>
(cof_M (fmtW 1 2 2) r114.2.2 0 2 1).bind fun r133 =>
(cclose_M (fmtW 1 2 2) r114.2.2 0 1).bind fun r145 =>
(cclose_M (fmtW 1 2 2) r145.2.2 0 1).bind fun r152 =>
if r102.2.2.2.2.2 = 0 then (if r102.1 = 1 then (if r102.2.1 = 0 ∧ r102.2.2.1 = 9 ∧ r102.2.2.2.1 = 0 ∧ r102.2.2.2.2.1 = ByteArray.empty then (if r114.2.1 = 0 then (if r114.1 = 1 then (if r121.2.2.2.2.2 = 0 then (if r121.1 = 2 then (if r133.2.2.2.2.2 = 22 then (if r145.2.1 = 0 then (if r145.1 = 0 then (if r152.2.1 = 0 then (some (decide (r152.1 = 1))) else (some false)) else (some false)) else (some false)) else (some false)) else (some false)) else (some false)) else (some false)) else (some false)) else (some false)) else (some false)) else (some false)

def works11_B0 (r92 : Int × List (Int × Int)) (k184 : ((List (Int × Int)) × Int) → Option (Bool)) (l182 : List (Int × Int)) (p183 : Int) : Option (Bool) :=
  if p183 < (r92.2.length : Int) then (need (0 ≤ p183 ∧ p183 < (r92.2.length : Int)) <|
need (0 ≤ p183 ∧ p183 < (r92.2.length : Int)) <|
(some (vput (fmtW 1 2 2) l182 ((r92.2.getD p183.toNat (0, 0)).1) ((r92.2.getD p183.toNat (0, 0)).2))).bind fun r228 =>
need (-9223372036854775808 ≤ (p183 + 1) ∧ (p183 + 1) ≤ 9223372036854775807) <|
k184 (r228.2, (p183 + 1))) else (works11_J1 l182)

def works11_M  : Option (Bool) :=
  need ((fmtW 1 2 2).length ≤ 17592186044415) <|
need ((fmtW 1 2 2).length ≤ 17592186044415) <|
(copen_M (fmtW 1 2 2) ([]) 0 2).bind fun r37 =>
(copen_M (fmtW 1 2 2) r37.2.2 0 1).bind fun r44 =>
(copen_M (fmtW 1 2 2) r44.2.2 0 1).bind fun r50 =>
(cof_M (fmtW 1 2 2) r50.2.2 0 1 1).bind fun r56 =>
(cof_M (fmtW 1 2 2) r50.2.2 0 1 5).bind fun r68 =>
if r37.2.1 = 0 then (if r44.2.1 = 0 then (if r50.2.1 = 0 then (if r56.2.2.2.2.2 = 0 then (if r68.2.2.2.2.2 = 0 then (if r37.1 = 3 then (if r44.1 = 0 then (if r50.1 = 1 then (if r56.1 = 0 then (if r68.1 = 3 then ((rsave_M (fmtW 1 2 2) ([]) 0 1 1 0 9 0 ByteArray.empty).bind fun r92 =>
iter (fun k_ s_ => works11_B0 r92 k_ s_.1 s_.2) FUEL (r50.2.2, 0)) else (some false)) else (some false)) else (some false)) else (some false)) else (some false)) else (some false)) else (some false)) else (some false)) else (some false)) else (some false)

set_option maxRecDepth 20000 in
set_option maxHeartbeats 8000000 in
set_option linter.unusedVariables false in
theorem works11_walk   {r : Bool} (B : Nat) (w : World) (hG2 : 1 < B) (hL : CellsAt (some ⟨1, 0, none⟩) [(.int .i64 1), (.int .i64 2), (.int .i64 2)] w) (hm : works11_M = some r) : Spec Tryd.prog 65 #[] B w [] (fun v H' => v = .bool r ∧ H' = []) := by
  refine spec_Q Tryd.func65 rfl fun hs => ?_
  unfold works11_M at hm
  refine W.seq fun K1 hK1 => ?_
  refine W.region ?_
  refine ops_run 1 (by kernel_rfl) ?_
  refine ops_done (by kernel_rfl) ?_
  refine hK1 _ _ ?_
  clear hK1
  refine W.seq fun K2 hK2 => ?_
  refine W.region ?_
  refine ops_run 1 (by kernel_rfl) ?_
  refine ops_call0 hs (by kernel_rfl) (format_spec (gw := 1) (gi := 2) (gb := 2) B _) ?_
  rintro _ _ w5 ⟨a3, c4, rfl, rfl⟩ hs6
  have hs7 := St.ap1 hs6
  obtain ⟨h9, hm⟩ := need_some hm
  refine ops_call0 hs7 (by kernel_rfl) (rnew_spec (hc := (St.kcells kU64 hs7 0 rfl)) (hn := (St.capnil kU64 hs7 0 rfl)) (hsz := h9) B _) ?_
  rintro _ _ w10 ⟨b8, rfl, rfl⟩ hs11
  have hs12 := St.ap1 hs11
  refine ops_run 1 (by kernel_rfl) ?_
  refine ops_done (by kernel_rfl) ?_
  refine hK2 _ _ ?_
  clear hK2
  refine W.seq fun K13 hK13 => ?_
  obtain ⟨⟨_, ia14, ic15, la16, lc17, mn18⟩, ⟨ex19, hok20⟩, hs21⟩ := St.open hs12
  have hs22 : St B w [] w10 [blk b8 (.cells [(.slice ia14 ((fmtW 1 2 2).length) ic15), (.slice la16 0 lc17), (.bool mn18)].toArray 71 (0, 0)), kU64.row ia14 ic15 (fmtW 1 2 2), kWr.row la16 lc17 ([]), kU64.row a3 c4 (fmtW 1 2 2)] := by cases ex19; exact hs21
  have := hok20.many
  refine W.region ?_
  refine ops_run 3 (by kernel_rfl) ?_
  refine ops_R (runs_load (ad := ⟨b8, 0, none⟩) (v := (.slice ia14 ((fmtW 1 2 2).length) ic15)) (by kernel_rfl) (hs22.cellAt 0 rfl rfl)) ?_
  obtain ⟨h24, hm⟩ := need_some hm
  refine ops_call0 hs22 (by kernel_rfl) (new_spec (hc := (St.kcells kU64 hs22 1 rfl)) (hn := (St.capnil kU64 hs22 1 rfl)) (hsz := h24) B _) ?_
  rintro _ _ w25 ⟨b23, rfl, rfl⟩ hs26
  have hs27 := St.ap1 hs26
  refine ops_run 1 (by kernel_rfl) ?_
  refine ops_done (by kernel_rfl) ?_
  have hs28 := St.f4 hs27
  have hs29 := St.f1 hs28
  have hs30 := St.f4 hs29
  have hs31 := St.f4 hs30
  have hs32 := St.f4 hs31
  have hs33 : St B w [] w25 [refA (ptr b8) (fmtW 1 2 2) ([]), viewA (ptr b23) (fmtW 1 2 2) ([]), kU64.row a3 c4 (fmtW 1 2 2)] := ref_close (l := []) (ia := ia14) (ic := ic15) (la := la16) (lc := lc17) (many := mn18) hok20 hs32
  refine hK13 _ _ ?_
  clear hK13
  refine W.seq fun K34 hK34 => ?_
  refine W.seq fun K35 hK35 => ?_
  refine W.region ?_
  refine ops_run 2 (by kernel_rfl) ?_
  refine ops_done (by kernel_rfl) ?_
  refine hK35 _ _ ?_
  clear hK35
  refine W.cond_false false (by kernel_rfl) rfl ?_
  refine W.skip ?_
  refine hK34 _ _ ?_
  clear hK34
  refine W.seq fun K36 hK36 => ?_
  refine W.region ?_
  refine ops_run 1 (by kernel_rfl) ?_
  obtain ⟨r37, h38, hm⟩ := bind_some hm
  have hs39 := St.f1 hs33
  refine ops_call1 hs39 (by kernel_rfl) (copen_walk (vb := b23) (i_ := 0) (g_ := 2) (img := (fmtW 1 2 2)) (l := []) (hG2 := hG2) (hL := (hs33.oldCells hL)) (hm := h38) B _) ?_
  rintro _ _ w40 ⟨rfl, rfl⟩ hs41
  have hs42 := St.ap1 hs41
  refine ops_run 5 (by kernel_rfl) ?_
  refine ops_done (by kernel_rfl) ?_
  refine hK36 _ _ ?_
  clear hK36
  refine W.seq fun K43 hK43 => ?_
  refine W.region ?_
  refine ops_run 1 (by kernel_rfl) ?_
  obtain ⟨r44, h45, hm⟩ := bind_some hm
  refine ops_call1 hs42 (by kernel_rfl) (copen_walk (vb := b23) (i_ := 0) (g_ := 1) (img := (fmtW 1 2 2)) (l := r37.2.2) (hG2 := hG2) (hL := (hs42.oldCells hL)) (hm := h45) B _) ?_
  rintro _ _ w46 ⟨rfl, rfl⟩ hs47
  have hs48 := St.ap1 hs47
  refine ops_run 5 (by kernel_rfl) ?_
  refine ops_done (by kernel_rfl) ?_
  refine hK43 _ _ ?_
  clear hK43
  refine W.seq fun K49 hK49 => ?_
  refine W.region ?_
  refine ops_run 1 (by kernel_rfl) ?_
  obtain ⟨r50, h51, hm⟩ := bind_some hm
  refine ops_call1 hs48 (by kernel_rfl) (copen_walk (vb := b23) (i_ := 0) (g_ := 1) (img := (fmtW 1 2 2)) (l := r44.2.2) (hG2 := hG2) (hL := (hs48.oldCells hL)) (hm := h51) B _) ?_
  rintro _ _ w52 ⟨rfl, rfl⟩ hs53
  have hs54 := St.ap1 hs53
  refine ops_run 5 (by kernel_rfl) ?_
  refine ops_done (by kernel_rfl) ?_
  refine hK49 _ _ ?_
  clear hK49
  refine W.seq fun K55 hK55 => ?_
  refine W.region ?_
  refine ops_run 1 (by kernel_rfl) ?_
  obtain ⟨r56, h57, hm⟩ := bind_some hm
  refine ops_call0 hs54 (by kernel_rfl) (cof_walk (i_ := 0) (g_ := 1) (q_ := 1) (img := (fmtW 1 2 2)) (l := r50.2.2) (hL := (hs54.oldCells hL)) (hv := (hs54.entAt 0 rfl viewA_at)) (hm := h57) B _) ?_
  rintro _ _ w58 ⟨rfl, rfl⟩ hs59
  have hs60 := St.ap0 hs59
  refine ops_run 4 (by kernel_rfl) ?_
  refine ops_new (fun b => .pointer (some ⟨b, 0, none⟩)) (.cells [(.int .i64 0), (.int .u64 0), (.int .u64 0), (.string ByteArray.empty)].toArray 46 (0, 0)) hs60 (by kernel_rfl) (fun b63 w61 hs62 => ?_)
  refine ops_run 1 (by kernel_rfl) ?_
  refine ops_store (off := 0) (cs := [(.int .i64 0), (.int .u64 0), (.int .u64 0), (.string ByteArray.empty)]) (vs := [(.int .i64 r56.2.1), (.int .u64 r56.2.2.1), (.int .u64 r56.2.2.2.1), (.string r56.2.2.2.2.1)]) hs62 (by kernel_rfl) (by simp) rfl (fun w64 hs65 => ?_)
  have hs66 : St B w [] w64 [blk b63 (.cells [(.int .i64 r56.2.1), (.int .u64 r56.2.2.1), (.int .u64 r56.2.2.2.1), (.string r56.2.2.2.2.1)].toArray 46 (0, 0)), viewA (ptr b23) (fmtW 1 2 2) r50.2.2, refA (ptr b8) (fmtW 1 2 2) ([]), kU64.row a3 c4 (fmtW 1 2 2)] := hs65
  refine ops_run 1 (by kernel_rfl) ?_
  refine ops_done (by kernel_rfl) ?_
  refine hK55 _ _ ?_
  clear hK55
  refine W.seq fun K67 hK67 => ?_
  refine W.region ?_
  refine ops_run 1 (by kernel_rfl) ?_
  obtain ⟨r68, h69, hm⟩ := bind_some hm
  refine ops_call0 hs66 (by kernel_rfl) (cof_walk (i_ := 0) (g_ := 1) (q_ := 5) (img := (fmtW 1 2 2)) (l := r50.2.2) (hL := (hs66.oldCells hL)) (hv := (hs66.entAt 1 rfl viewA_at)) (hm := h69) B _) ?_
  rintro _ _ w70 ⟨rfl, rfl⟩ hs71
  have hs72 := St.ap0 hs71
  refine ops_run 4 (by kernel_rfl) ?_
  refine ops_new (fun b => .pointer (some ⟨b, 0, none⟩)) (.cells [(.int .i64 0), (.int .u64 0), (.int .u64 0), (.string ByteArray.empty)].toArray 46 (0, 0)) hs72 (by kernel_rfl) (fun b75 w73 hs74 => ?_)
  refine ops_run 1 (by kernel_rfl) ?_
  refine ops_store (off := 0) (cs := [(.int .i64 0), (.int .u64 0), (.int .u64 0), (.string ByteArray.empty)]) (vs := [(.int .i64 r68.2.1), (.int .u64 r68.2.2.1), (.int .u64 r68.2.2.2.1), (.string r68.2.2.2.2.1)]) hs74 (by kernel_rfl) (by simp) rfl (fun w76 hs77 => ?_)
  have hs78 : St B w [] w76 [blk b75 (.cells [(.int .i64 r68.2.1), (.int .u64 r68.2.2.1), (.int .u64 r68.2.2.2.1), (.string r68.2.2.2.2.1)].toArray 46 (0, 0)), blk b63 (.cells [(.int .i64 r56.2.1), (.int .u64 r56.2.2.1), (.int .u64 r56.2.2.2.1), (.string r56.2.2.2.2.1)].toArray 46 (0, 0)), viewA (ptr b23) (fmtW 1 2 2) r50.2.2, refA (ptr b8) (fmtW 1 2 2) ([]), kU64.row a3 c4 (fmtW 1 2 2)] := hs77
  refine ops_run 1 (by kernel_rfl) ?_
  refine ops_done (by kernel_rfl) ?_
  refine hK67 _ _ ?_
  clear hK67
  refine W.seq fun K79 hK79 => ?_
  refine W.seq fun K80 hK80 => ?_
  refine W.region ?_
  refine ops_run 3 (by kernel_rfl) ?_
  rcases Bool.eq_false_or_eq_true (!decide (r37.2.1 = 0)) with h81 | h81
  rotate_left
  ·
    have h81p : r37.2.1 = 0 := of_decide_eq_true (bnot_false h81)
    replace hm := ite_yes hm h81p
    refine ops_set 70 (v := .bool false) (eq_bool_of (by kernel_rfl) h81) ?_
    refine ops_set 69 (v := .bool false) (eq_bool_of (by kernel_rfl) h81) ?_
    refine ops_run 4 (by kernel_rfl) ?_
    rcases Bool.eq_false_or_eq_true (!decide (r44.2.1 = 0)) with h82 | h82
    rotate_left
    ·
      have h82p : r44.2.1 = 0 := of_decide_eq_true (bnot_false h82)
      replace hm := ite_yes hm h82p
      refine ops_set 74 (v := .bool false) (eq_bool_of (by kernel_rfl) h82) ?_
      refine ops_set 72 (v := .bool false) (eq_bool_of (by kernel_rfl) h82) ?_
      refine ops_set 73 (v := .bool false) (eq_bool_of (by kernel_rfl) h82) ?_
      refine ops_run 4 (by kernel_rfl) ?_
      rcases Bool.eq_false_or_eq_true (!decide (r50.2.1 = 0)) with h83 | h83
      rotate_left
      ·
        have h83p : r50.2.1 = 0 := of_decide_eq_true (bnot_false h83)
        replace hm := ite_yes hm h83p
        refine ops_set 78 (v := .bool false) (eq_bool_of (by kernel_rfl) h83) ?_
        refine ops_set 76 (v := .bool false) (eq_bool_of (by kernel_rfl) h83) ?_
        refine ops_set 77 (v := .bool false) (eq_bool_of (by kernel_rfl) h83) ?_
        refine ops_run 4 (by kernel_rfl) ?_
        rcases Bool.eq_false_or_eq_true (!decide (r56.2.2.2.2.2 = 0)) with h84 | h84
        rotate_left
        ·
          have h84p : r56.2.2.2.2.2 = 0 := of_decide_eq_true (bnot_false h84)
          replace hm := ite_yes hm h84p
          refine ops_set 82 (v := .bool false) (eq_bool_of (by kernel_rfl) h84) ?_
          refine ops_set 80 (v := .bool false) (eq_bool_of (by kernel_rfl) h84) ?_
          refine ops_set 81 (v := .bool false) (eq_bool_of (by kernel_rfl) h84) ?_
          refine ops_run 4 (by kernel_rfl) ?_
          rcases Bool.eq_false_or_eq_true (!decide (r68.2.2.2.2.2 = 0)) with h85 | h85
          rotate_left
          ·
            have h85p : r68.2.2.2.2.2 = 0 := of_decide_eq_true (bnot_false h85)
            replace hm := ite_yes hm h85p
            refine ops_set 86 (v := .bool false) (eq_bool_of (by kernel_rfl) h85) ?_
            refine ops_set 84 (v := .bool false) (eq_bool_of (by kernel_rfl) h85) ?_
            refine ops_set 85 (v := .bool false) (eq_bool_of (by kernel_rfl) h85) ?_
            refine ops_run 4 (by kernel_rfl) ?_
            rcases Bool.eq_false_or_eq_true (!decide (r37.1 = 3)) with h86 | h86
            rotate_left
            ·
              have h86p : r37.1 = 3 := of_decide_eq_true (bnot_false h86)
              replace hm := ite_yes hm h86p
              refine ops_set 90 (v := .bool false) (eq_bool_of (by kernel_rfl) h86) ?_
              refine ops_set 88 (v := .bool false) (eq_bool_of (by kernel_rfl) h86) ?_
              refine ops_set 89 (v := .bool false) (eq_bool_of (by kernel_rfl) h86) ?_
              refine ops_run 4 (by kernel_rfl) ?_
              rcases Bool.eq_false_or_eq_true (!decide (r44.1 = 0)) with h87 | h87
              rotate_left
              ·
                have h87p : r44.1 = 0 := of_decide_eq_true (bnot_false h87)
                replace hm := ite_yes hm h87p
                refine ops_set 94 (v := .bool false) (eq_bool_of (by kernel_rfl) h87) ?_
                refine ops_set 92 (v := .bool false) (eq_bool_of (by kernel_rfl) h87) ?_
                refine ops_set 93 (v := .bool false) (eq_bool_of (by kernel_rfl) h87) ?_
                refine ops_run 4 (by kernel_rfl) ?_
                rcases Bool.eq_false_or_eq_true (!decide (r50.1 = 1)) with h88 | h88
                rotate_left
                ·
                  have h88p : r50.1 = 1 := of_decide_eq_true (bnot_false h88)
                  replace hm := ite_yes hm h88p
                  refine ops_set 98 (v := .bool false) (eq_bool_of (by kernel_rfl) h88) ?_
                  refine ops_set 96 (v := .bool false) (eq_bool_of (by kernel_rfl) h88) ?_
                  refine ops_set 97 (v := .bool false) (eq_bool_of (by kernel_rfl) h88) ?_
                  refine ops_run 4 (by kernel_rfl) ?_
                  rcases Bool.eq_false_or_eq_true (!decide (r56.1 = 0)) with h89 | h89
                  rotate_left
                  ·
                    have h89p : r56.1 = 0 := of_decide_eq_true (bnot_false h89)
                    replace hm := ite_yes hm h89p
                    refine ops_set 102 (v := .bool false) (eq_bool_of (by kernel_rfl) h89) ?_
                    refine ops_set 100 (v := .bool false) (eq_bool_of (by kernel_rfl) h89) ?_
                    refine ops_set 101 (v := .bool false) (eq_bool_of (by kernel_rfl) h89) ?_
                    refine ops_run 3 (by kernel_rfl) ?_
                    refine ops_done (by kernel_rfl) ?_
                    refine hK80 _ _ ?_
                    clear hK80
                    refine W.cond (!decide (r68.1 = 3)) (by kernel_rfl) (fun h90 => ?_) (fun h90 => ?_)
                    rotate_left
                    ·
                      have h90p : r68.1 = 3 := of_decide_eq_true (bnot_false h90)
                      replace hm := ite_yes hm h90p
                      refine W.skip ?_
                      refine hK79 _ _ ?_
                      clear hK79
                      refine W.seq fun K91 hK91 => ?_
                      refine W.region ?_
                      refine ops_run 2 (by kernel_rfl) ?_
                      obtain ⟨r92, h93, hm⟩ := bind_some hm
                      have hs94 := St.f3 hs78
                      refine ops_call1 hs94 (by kernel_rfl) (rsave_walk (vb := b8) (i_ := 0) (k_ := 1) (q_ := 1) (re_ := 0) (ra_ := 9) (rb_ := 0) (rs_ := ByteArray.empty) (img := (fmtW 1 2 2)) (l := []) (hm := h93) B _) ?_
                      rintro _ _ w95 ⟨rfl, rfl⟩ hs96
                      have hs97 := St.ap1 hs96
                      refine ops_done (by kernel_rfl) ?_
                      refine hK91 _ _ ?_
                      clear hK91
                      refine W.seq_join (fun s_ w_ => ∃ (l98 : List (Int × Int)), (∃ us, s_ = slots 216 [(2, (.pointer (some ⟨b23, 0, none⟩)))] us) ∧ St B w [] w_ [viewA (ptr b23) (fmtW 1 2 2) l98, refA (ptr b8) (fmtW 1 2 2) r92.2, blk b75 (.cells [(.int .i64 r68.2.1), (.int .u64 r68.2.2.1), (.int .u64 r68.2.2.2.1), (.string r68.2.2.2.2.1)].toArray 46 (0, 0)), blk b63 (.cells [(.int .i64 r56.2.1), (.int .u64 r56.2.2.1), (.int .u64 r56.2.2.2.1), (.string r56.2.2.2.2.1)].toArray 46 (0, 0)), kU64.row a3 c4 (fmtW 1 2 2)] ∧ works11_J1 l98 = some r) ?_ ?_
                      ·
                        rintro _ w99 ⟨l98, ⟨us, rfl⟩, hs100, hm⟩
                        unfold works11_J1 at hm
                        refine W.seq fun K101 hK101 => ?_
                        refine W.region ?_
                        refine ops_run 1 (by kernel_rfl) ?_
                        obtain ⟨r102, h103, hm⟩ := bind_some hm
                        refine ops_call0 hs100 (by kernel_rfl) (cof_walk (i_ := 0) (g_ := 1) (q_ := 1) (img := (fmtW 1 2 2)) (l := l98) (hL := (hs100.oldCells hL)) (hv := (hs100.entAt 0 rfl viewA_at)) (hm := h103) B _) ?_
                        rintro _ _ w104 ⟨rfl, rfl⟩ hs105
                        have hs106 := St.ap0 hs105
                        refine ops_run 4 (by kernel_rfl) ?_
                        refine ops_new (fun b => .pointer (some ⟨b, 0, none⟩)) (.cells [(.int .i64 0), (.int .u64 0), (.int .u64 0), (.string ByteArray.empty)].toArray 46 (0, 0)) hs106 (by kernel_rfl) (fun b109 w107 hs108 => ?_)
                        refine ops_run 1 (by kernel_rfl) ?_
                        refine ops_store (off := 0) (cs := [(.int .i64 0), (.int .u64 0), (.int .u64 0), (.string ByteArray.empty)]) (vs := [(.int .i64 r102.2.1), (.int .u64 r102.2.2.1), (.int .u64 r102.2.2.2.1), (.string r102.2.2.2.2.1)]) hs108 (by kernel_rfl) (by simp) rfl (fun w110 hs111 => ?_)
                        have hs112 : St B w [] w110 [blk b109 (.cells [(.int .i64 r102.2.1), (.int .u64 r102.2.2.1), (.int .u64 r102.2.2.2.1), (.string r102.2.2.2.2.1)].toArray 46 (0, 0)), viewA (ptr b23) (fmtW 1 2 2) l98, refA (ptr b8) (fmtW 1 2 2) r92.2, blk b75 (.cells [(.int .i64 r68.2.1), (.int .u64 r68.2.2.1), (.int .u64 r68.2.2.2.1), (.string r68.2.2.2.2.1)].toArray 46 (0, 0)), blk b63 (.cells [(.int .i64 r56.2.1), (.int .u64 r56.2.2.1), (.int .u64 r56.2.2.2.1), (.string r56.2.2.2.2.1)].toArray 46 (0, 0)), kU64.row a3 c4 (fmtW 1 2 2)] := hs111
                        refine ops_run 1 (by kernel_rfl) ?_
                        refine ops_done (by kernel_rfl) ?_
                        refine hK101 _ _ ?_
                        clear hK101
                        refine W.seq fun K113 hK113 => ?_
                        refine W.region ?_
                        refine ops_run 1 (by kernel_rfl) ?_
                        obtain ⟨r114, h115, hm⟩ := bind_some hm
                        have hs116 := St.f1 hs112
                        refine ops_call1 hs116 (by kernel_rfl) (cack_walk (vb := b23) (i_ := 0) (g_ := 1) (q_ := 3) (img := (fmtW 1 2 2)) (l := l98) (hG2 := hG2) (hL := (hs112.oldCells hL)) (hm := h115) B _) ?_
                        rintro _ _ w117 ⟨rfl, rfl⟩ hs118
                        have hs119 := St.ap1 hs118
                        refine ops_run 5 (by kernel_rfl) ?_
                        refine ops_done (by kernel_rfl) ?_
                        refine hK113 _ _ ?_
                        clear hK113
                        refine W.seq fun K120 hK120 => ?_
                        refine W.region ?_
                        refine ops_run 1 (by kernel_rfl) ?_
                        obtain ⟨r121, h122, hm⟩ := bind_some hm
                        refine ops_call0 hs119 (by kernel_rfl) (cof_walk (i_ := 0) (g_ := 1) (q_ := 1) (img := (fmtW 1 2 2)) (l := r114.2.2) (hL := (hs119.oldCells hL)) (hv := (hs119.entAt 0 rfl viewA_at)) (hm := h122) B _) ?_
                        rintro _ _ w123 ⟨rfl, rfl⟩ hs124
                        have hs125 := St.ap0 hs124
                        refine ops_run 4 (by kernel_rfl) ?_
                        refine ops_new (fun b => .pointer (some ⟨b, 0, none⟩)) (.cells [(.int .i64 0), (.int .u64 0), (.int .u64 0), (.string ByteArray.empty)].toArray 46 (0, 0)) hs125 (by kernel_rfl) (fun b128 w126 hs127 => ?_)
                        refine ops_run 1 (by kernel_rfl) ?_
                        refine ops_store (off := 0) (cs := [(.int .i64 0), (.int .u64 0), (.int .u64 0), (.string ByteArray.empty)]) (vs := [(.int .i64 r121.2.1), (.int .u64 r121.2.2.1), (.int .u64 r121.2.2.2.1), (.string r121.2.2.2.2.1)]) hs127 (by kernel_rfl) (by simp) rfl (fun w129 hs130 => ?_)
                        have hs131 : St B w [] w129 [blk b128 (.cells [(.int .i64 r121.2.1), (.int .u64 r121.2.2.1), (.int .u64 r121.2.2.2.1), (.string r121.2.2.2.2.1)].toArray 46 (0, 0)), viewA (ptr b23) (fmtW 1 2 2) r114.2.2, blk b109 (.cells [(.int .i64 r102.2.1), (.int .u64 r102.2.2.1), (.int .u64 r102.2.2.2.1), (.string r102.2.2.2.2.1)].toArray 46 (0, 0)), refA (ptr b8) (fmtW 1 2 2) r92.2, blk b75 (.cells [(.int .i64 r68.2.1), (.int .u64 r68.2.2.1), (.int .u64 r68.2.2.2.1), (.string r68.2.2.2.2.1)].toArray 46 (0, 0)), blk b63 (.cells [(.int .i64 r56.2.1), (.int .u64 r56.2.2.1), (.int .u64 r56.2.2.2.1), (.string r56.2.2.2.2.1)].toArray 46 (0, 0)), kU64.row a3 c4 (fmtW 1 2 2)] := hs130
                        refine ops_run 1 (by kernel_rfl) ?_
                        refine ops_done (by kernel_rfl) ?_
                        refine hK120 _ _ ?_
                        clear hK120
                        refine W.seq fun K132 hK132 => ?_
                        refine W.region ?_
                        refine ops_run 1 (by kernel_rfl) ?_
                        obtain ⟨r133, h134, hm⟩ := bind_some hm
                        refine ops_call0 hs131 (by kernel_rfl) (cof_walk (i_ := 0) (g_ := 2) (q_ := 1) (img := (fmtW 1 2 2)) (l := r114.2.2) (hL := (hs131.oldCells hL)) (hv := (hs131.entAt 1 rfl viewA_at)) (hm := h134) B _) ?_
                        rintro _ _ w135 ⟨rfl, rfl⟩ hs136
                        have hs137 := St.ap0 hs136
                        refine ops_run 4 (by kernel_rfl) ?_
                        refine ops_new (fun b => .pointer (some ⟨b, 0, none⟩)) (.cells [(.int .i64 0), (.int .u64 0), (.int .u64 0), (.string ByteArray.empty)].toArray 46 (0, 0)) hs137 (by kernel_rfl) (fun b140 w138 hs139 => ?_)
                        refine ops_run 1 (by kernel_rfl) ?_
                        refine ops_store (off := 0) (cs := [(.int .i64 0), (.int .u64 0), (.int .u64 0), (.string ByteArray.empty)]) (vs := [(.int .i64 r133.2.1), (.int .u64 r133.2.2.1), (.int .u64 r133.2.2.2.1), (.string r133.2.2.2.2.1)]) hs139 (by kernel_rfl) (by simp) rfl (fun w141 hs142 => ?_)
                        have hs143 : St B w [] w141 [blk b140 (.cells [(.int .i64 r133.2.1), (.int .u64 r133.2.2.1), (.int .u64 r133.2.2.2.1), (.string r133.2.2.2.2.1)].toArray 46 (0, 0)), blk b128 (.cells [(.int .i64 r121.2.1), (.int .u64 r121.2.2.1), (.int .u64 r121.2.2.2.1), (.string r121.2.2.2.2.1)].toArray 46 (0, 0)), viewA (ptr b23) (fmtW 1 2 2) r114.2.2, blk b109 (.cells [(.int .i64 r102.2.1), (.int .u64 r102.2.2.1), (.int .u64 r102.2.2.2.1), (.string r102.2.2.2.2.1)].toArray 46 (0, 0)), refA (ptr b8) (fmtW 1 2 2) r92.2, blk b75 (.cells [(.int .i64 r68.2.1), (.int .u64 r68.2.2.1), (.int .u64 r68.2.2.2.1), (.string r68.2.2.2.2.1)].toArray 46 (0, 0)), blk b63 (.cells [(.int .i64 r56.2.1), (.int .u64 r56.2.2.1), (.int .u64 r56.2.2.2.1), (.string r56.2.2.2.2.1)].toArray 46 (0, 0)), kU64.row a3 c4 (fmtW 1 2 2)] := hs142
                        refine ops_run 1 (by kernel_rfl) ?_
                        refine ops_done (by kernel_rfl) ?_
                        refine hK132 _ _ ?_
                        clear hK132
                        refine W.seq fun K144 hK144 => ?_
                        refine W.region ?_
                        refine ops_run 1 (by kernel_rfl) ?_
                        obtain ⟨r145, h146, hm⟩ := bind_some hm
                        have hs147 := St.f2 hs143
                        refine ops_call1 hs147 (by kernel_rfl) (cclose_walk (vb := b23) (i_ := 0) (g_ := 1) (img := (fmtW 1 2 2)) (l := r114.2.2) (hG2 := hG2) (hL := (hs143.oldCells hL)) (hm := h146) B _) ?_
                        rintro _ _ w148 ⟨rfl, rfl⟩ hs149
                        have hs150 := St.ap1 hs149
                        refine ops_run 5 (by kernel_rfl) ?_
                        refine ops_done (by kernel_rfl) ?_
                        refine hK144 _ _ ?_
                        clear hK144
                        refine W.seq fun K151 hK151 => ?_
                        refine W.region ?_
                        refine ops_run 1 (by kernel_rfl) ?_
                        obtain ⟨r152, h153, hm⟩ := bind_some hm
                        refine ops_call1 hs150 (by kernel_rfl) (cclose_walk (vb := b23) (i_ := 0) (g_ := 1) (img := (fmtW 1 2 2)) (l := r145.2.2) (hG2 := hG2) (hL := (hs150.oldCells hL)) (hm := h153) B _) ?_
                        rintro _ _ w154 ⟨rfl, rfl⟩ hs155
                        have hs156 := St.ap1 hs155
                        refine ops_run 5 (by kernel_rfl) ?_
                        refine ops_done (by kernel_rfl) ?_
                        refine hK151 _ _ ?_
                        clear hK151
                        refine W.seq fun K157 hK157 => ?_
                        refine W.region ?_
                        refine ops_run 3 (by kernel_rfl) ?_
                        rcases Bool.eq_false_or_eq_true (decide (r102.2.2.2.2.2 = 0)) with h158 | h158
                        ·
                          have h158p : r102.2.2.2.2.2 = 0 := of_decide_eq_true h158
                          replace hm := ite_yes hm h158p
                          refine ops_set 171 (v := .bool true) (eq_bool_of (by kernel_rfl) h158) ?_
                          refine ops_set 170 (v := .bool true) (eq_bool_of (by kernel_rfl) h158) ?_
                          refine ops_run 4 (by kernel_rfl) ?_
                          rcases Bool.eq_false_or_eq_true (decide (r102.1 = 1)) with h159 | h159
                          ·
                            have h159p : r102.1 = 1 := of_decide_eq_true h159
                            replace hm := ite_yes hm h159p
                            refine ops_set 175 (v := .bool true) (eq_bool_of (by kernel_rfl) h159) ?_
                            refine ops_set 173 (v := .bool true) (eq_bool_of (by kernel_rfl) h159) ?_
                            refine ops_set 174 (v := .bool true) (eq_bool_of (by kernel_rfl) h159) ?_
                            refine ops_R (runs_loadAgg (ad := ⟨b109, 0, none⟩) (cs := [(.int .i64 r102.2.1), (.int .u64 r102.2.2.1), (.int .u64 r102.2.2.2.1), (.string r102.2.2.2.2.1)]) (by kernel_rfl) (cells_sub (hs156.heapAt 3 rfl) rfl)) ?_
                            refine ops_run 1 (by kernel_rfl) ?_
                            refine ops_R (v := (.bool ((decide (r102.2.1 = 0)) && ((decide (r102.2.2.1 = 9)) && ((decide (r102.2.2.2.1 = 0)) && ((r102.2.2.2.2.1 == ByteArray.empty) && true)))))) (runs_eq (b := ((decide (r102.2.1 = 0)) && ((decide (r102.2.2.1 = 9)) && ((decide (r102.2.2.2.1 = 0)) && ((r102.2.2.2.2.1 == ByteArray.empty) && true))))) (by kernel_rfl)) ?_
                            refine ops_run 2 (by kernel_rfl) ?_
                            rcases Bool.eq_false_or_eq_true ((decide (r102.2.1 = 0)) && ((decide (r102.2.2.1 = 9)) && ((decide (r102.2.2.2.1 = 0)) && ((r102.2.2.2.2.1 == ByteArray.empty) && true)))) with h160 | h160
                            ·
                              have h160p : r102.2.1 = 0 ∧ r102.2.2.1 = 9 ∧ r102.2.2.2.1 = 0 ∧ r102.2.2.2.2.1 = ByteArray.empty := by simpa using h160
                              replace hm := ite_yes hm h160p
                              refine ops_set 180 (v := .bool true) (eq_bool_of (by kernel_rfl) h160) ?_
                              refine ops_set 178 (v := .bool true) (eq_bool_of (by kernel_rfl) h160) ?_
                              refine ops_set 179 (v := .bool true) (eq_bool_of (by kernel_rfl) h160) ?_
                              refine ops_run 4 (by kernel_rfl) ?_
                              rcases Bool.eq_false_or_eq_true (decide (r114.2.1 = 0)) with h161 | h161
                              ·
                                have h161p : r114.2.1 = 0 := of_decide_eq_true h161
                                replace hm := ite_yes hm h161p
                                refine ops_set 184 (v := .bool true) (eq_bool_of (by kernel_rfl) h161) ?_
                                refine ops_set 182 (v := .bool true) (eq_bool_of (by kernel_rfl) h161) ?_
                                refine ops_set 183 (v := .bool true) (eq_bool_of (by kernel_rfl) h161) ?_
                                refine ops_run 4 (by kernel_rfl) ?_
                                rcases Bool.eq_false_or_eq_true (decide (r114.1 = 1)) with h162 | h162
                                ·
                                  have h162p : r114.1 = 1 := of_decide_eq_true h162
                                  replace hm := ite_yes hm h162p
                                  refine ops_set 188 (v := .bool true) (eq_bool_of (by kernel_rfl) h162) ?_
                                  refine ops_set 186 (v := .bool true) (eq_bool_of (by kernel_rfl) h162) ?_
                                  refine ops_set 187 (v := .bool true) (eq_bool_of (by kernel_rfl) h162) ?_
                                  refine ops_run 4 (by kernel_rfl) ?_
                                  rcases Bool.eq_false_or_eq_true (decide (r121.2.2.2.2.2 = 0)) with h163 | h163
                                  ·
                                    have h163p : r121.2.2.2.2.2 = 0 := of_decide_eq_true h163
                                    replace hm := ite_yes hm h163p
                                    refine ops_set 192 (v := .bool true) (eq_bool_of (by kernel_rfl) h163) ?_
                                    refine ops_set 190 (v := .bool true) (eq_bool_of (by kernel_rfl) h163) ?_
                                    refine ops_set 191 (v := .bool true) (eq_bool_of (by kernel_rfl) h163) ?_
                                    refine ops_run 4 (by kernel_rfl) ?_
                                    rcases Bool.eq_false_or_eq_true (decide (r121.1 = 2)) with h164 | h164
                                    ·
                                      have h164p : r121.1 = 2 := of_decide_eq_true h164
                                      replace hm := ite_yes hm h164p
                                      refine ops_set 196 (v := .bool true) (eq_bool_of (by kernel_rfl) h164) ?_
                                      refine ops_set 194 (v := .bool true) (eq_bool_of (by kernel_rfl) h164) ?_
                                      refine ops_set 195 (v := .bool true) (eq_bool_of (by kernel_rfl) h164) ?_
                                      refine ops_run 4 (by kernel_rfl) ?_
                                      rcases Bool.eq_false_or_eq_true (decide (r133.2.2.2.2.2 = 22)) with h165 | h165
                                      ·
                                        have h165p : r133.2.2.2.2.2 = 22 := of_decide_eq_true h165
                                        replace hm := ite_yes hm h165p
                                        refine ops_set 200 (v := .bool true) (eq_bool_of (by kernel_rfl) h165) ?_
                                        refine ops_set 198 (v := .bool true) (eq_bool_of (by kernel_rfl) h165) ?_
                                        refine ops_set 199 (v := .bool true) (eq_bool_of (by kernel_rfl) h165) ?_
                                        refine ops_run 4 (by kernel_rfl) ?_
                                        rcases Bool.eq_false_or_eq_true (decide (r145.2.1 = 0)) with h166 | h166
                                        ·
                                          have h166p : r145.2.1 = 0 := of_decide_eq_true h166
                                          replace hm := ite_yes hm h166p
                                          refine ops_set 204 (v := .bool true) (eq_bool_of (by kernel_rfl) h166) ?_
                                          refine ops_set 202 (v := .bool true) (eq_bool_of (by kernel_rfl) h166) ?_
                                          refine ops_set 203 (v := .bool true) (eq_bool_of (by kernel_rfl) h166) ?_
                                          refine ops_run 4 (by kernel_rfl) ?_
                                          rcases Bool.eq_false_or_eq_true (decide (r145.1 = 0)) with h167 | h167
                                          ·
                                            have h167p : r145.1 = 0 := of_decide_eq_true h167
                                            replace hm := ite_yes hm h167p
                                            refine ops_set 208 (v := .bool true) (eq_bool_of (by kernel_rfl) h167) ?_
                                            refine ops_set 206 (v := .bool true) (eq_bool_of (by kernel_rfl) h167) ?_
                                            refine ops_set 207 (v := .bool true) (eq_bool_of (by kernel_rfl) h167) ?_
                                            refine ops_run 4 (by kernel_rfl) ?_
                                            rcases Bool.eq_false_or_eq_true (decide (r152.2.1 = 0)) with h168 | h168
                                            ·
                                              have h168p : r152.2.1 = 0 := of_decide_eq_true h168
                                              replace hm := ite_yes hm h168p
                                              refine ops_set 212 (v := .bool true) (eq_bool_of (by kernel_rfl) h168) ?_
                                              refine ops_set 210 (v := .bool true) (eq_bool_of (by kernel_rfl) h168) ?_
                                              refine ops_set 211 (v := .bool true) (eq_bool_of (by kernel_rfl) h168) ?_
                                              refine ops_run 4 (by kernel_rfl) ?_
                                              refine ops_done (by kernel_rfl) ?_
                                              refine hK157 _ _ ?_
                                              clear hK157
                                              refine W.ret ?_
                                              obtain rfl := some_inj hm
                                              have hs169 := St.tk0 hs156
                                              refine ret_of (.bool (decide (r152.1 = 1))) (by kernel_rfl) ⟨_, ⟨rfl, rfl⟩, hs169⟩
                                            ·
                                              have h168p : ¬ (r152.2.1 = 0) := of_decide_eq_false h168
                                              replace hm := ite_no hm h168p
                                              refine ops_set 212 (v := .bool false) (eq_bool_of (by kernel_rfl) h168) ?_
                                              refine ops_set 210 (v := .bool false) (eq_bool_of (by kernel_rfl) h168) ?_
                                              refine ops_set 211 (v := .bool false) (eq_bool_of (by kernel_rfl) h168) ?_
                                              refine ops_run 4 (by kernel_rfl) ?_
                                              refine ops_done (by kernel_rfl) ?_
                                              refine hK157 _ _ ?_
                                              clear hK157
                                              refine W.ret ?_
                                              obtain rfl := some_inj hm
                                              have hs170 := St.tk0 hs156
                                              refine ret_of (.bool false) (by kernel_rfl) ⟨_, ⟨rfl, rfl⟩, hs170⟩
                                          ·
                                            have h167p : ¬ (r145.1 = 0) := of_decide_eq_false h167
                                            replace hm := ite_no hm h167p
                                            refine ops_set 208 (v := .bool false) (eq_bool_of (by kernel_rfl) h167) ?_
                                            refine ops_set 206 (v := .bool false) (eq_bool_of (by kernel_rfl) h167) ?_
                                            refine ops_set 207 (v := .bool false) (eq_bool_of (by kernel_rfl) h167) ?_
                                            refine ops_run 8 (by kernel_rfl) ?_
                                            refine ops_done (by kernel_rfl) ?_
                                            refine hK157 _ _ ?_
                                            clear hK157
                                            refine W.ret ?_
                                            obtain rfl := some_inj hm
                                            have hs171 := St.tk0 hs156
                                            refine ret_of (.bool false) (by kernel_rfl) ⟨_, ⟨rfl, rfl⟩, hs171⟩
                                        ·
                                          have h166p : ¬ (r145.2.1 = 0) := of_decide_eq_false h166
                                          replace hm := ite_no hm h166p
                                          refine ops_set 204 (v := .bool false) (eq_bool_of (by kernel_rfl) h166) ?_
                                          refine ops_set 202 (v := .bool false) (eq_bool_of (by kernel_rfl) h166) ?_
                                          refine ops_set 203 (v := .bool false) (eq_bool_of (by kernel_rfl) h166) ?_
                                          refine ops_run 12 (by kernel_rfl) ?_
                                          refine ops_done (by kernel_rfl) ?_
                                          refine hK157 _ _ ?_
                                          clear hK157
                                          refine W.ret ?_
                                          obtain rfl := some_inj hm
                                          have hs172 := St.tk0 hs156
                                          refine ret_of (.bool false) (by kernel_rfl) ⟨_, ⟨rfl, rfl⟩, hs172⟩
                                      ·
                                        have h165p : ¬ (r133.2.2.2.2.2 = 22) := of_decide_eq_false h165
                                        replace hm := ite_no hm h165p
                                        refine ops_set 200 (v := .bool false) (eq_bool_of (by kernel_rfl) h165) ?_
                                        refine ops_set 198 (v := .bool false) (eq_bool_of (by kernel_rfl) h165) ?_
                                        refine ops_set 199 (v := .bool false) (eq_bool_of (by kernel_rfl) h165) ?_
                                        refine ops_run 16 (by kernel_rfl) ?_
                                        refine ops_done (by kernel_rfl) ?_
                                        refine hK157 _ _ ?_
                                        clear hK157
                                        refine W.ret ?_
                                        obtain rfl := some_inj hm
                                        have hs173 := St.tk0 hs156
                                        refine ret_of (.bool false) (by kernel_rfl) ⟨_, ⟨rfl, rfl⟩, hs173⟩
                                    ·
                                      have h164p : ¬ (r121.1 = 2) := of_decide_eq_false h164
                                      replace hm := ite_no hm h164p
                                      refine ops_set 196 (v := .bool false) (eq_bool_of (by kernel_rfl) h164) ?_
                                      refine ops_set 194 (v := .bool false) (eq_bool_of (by kernel_rfl) h164) ?_
                                      refine ops_set 195 (v := .bool false) (eq_bool_of (by kernel_rfl) h164) ?_
                                      refine ops_run 20 (by kernel_rfl) ?_
                                      refine ops_done (by kernel_rfl) ?_
                                      refine hK157 _ _ ?_
                                      clear hK157
                                      refine W.ret ?_
                                      obtain rfl := some_inj hm
                                      have hs174 := St.tk0 hs156
                                      refine ret_of (.bool false) (by kernel_rfl) ⟨_, ⟨rfl, rfl⟩, hs174⟩
                                  ·
                                    have h163p : ¬ (r121.2.2.2.2.2 = 0) := of_decide_eq_false h163
                                    replace hm := ite_no hm h163p
                                    refine ops_set 192 (v := .bool false) (eq_bool_of (by kernel_rfl) h163) ?_
                                    refine ops_set 190 (v := .bool false) (eq_bool_of (by kernel_rfl) h163) ?_
                                    refine ops_set 191 (v := .bool false) (eq_bool_of (by kernel_rfl) h163) ?_
                                    refine ops_run 24 (by kernel_rfl) ?_
                                    refine ops_done (by kernel_rfl) ?_
                                    refine hK157 _ _ ?_
                                    clear hK157
                                    refine W.ret ?_
                                    obtain rfl := some_inj hm
                                    have hs175 := St.tk0 hs156
                                    refine ret_of (.bool false) (by kernel_rfl) ⟨_, ⟨rfl, rfl⟩, hs175⟩
                                ·
                                  have h162p : ¬ (r114.1 = 1) := of_decide_eq_false h162
                                  replace hm := ite_no hm h162p
                                  refine ops_set 188 (v := .bool false) (eq_bool_of (by kernel_rfl) h162) ?_
                                  refine ops_set 186 (v := .bool false) (eq_bool_of (by kernel_rfl) h162) ?_
                                  refine ops_set 187 (v := .bool false) (eq_bool_of (by kernel_rfl) h162) ?_
                                  refine ops_run 28 (by kernel_rfl) ?_
                                  refine ops_done (by kernel_rfl) ?_
                                  refine hK157 _ _ ?_
                                  clear hK157
                                  refine W.ret ?_
                                  obtain rfl := some_inj hm
                                  have hs176 := St.tk0 hs156
                                  refine ret_of (.bool false) (by kernel_rfl) ⟨_, ⟨rfl, rfl⟩, hs176⟩
                              ·
                                have h161p : ¬ (r114.2.1 = 0) := of_decide_eq_false h161
                                replace hm := ite_no hm h161p
                                refine ops_set 184 (v := .bool false) (eq_bool_of (by kernel_rfl) h161) ?_
                                refine ops_set 182 (v := .bool false) (eq_bool_of (by kernel_rfl) h161) ?_
                                refine ops_set 183 (v := .bool false) (eq_bool_of (by kernel_rfl) h161) ?_
                                refine ops_run 32 (by kernel_rfl) ?_
                                refine ops_done (by kernel_rfl) ?_
                                refine hK157 _ _ ?_
                                clear hK157
                                refine W.ret ?_
                                obtain rfl := some_inj hm
                                have hs177 := St.tk0 hs156
                                refine ret_of (.bool false) (by kernel_rfl) ⟨_, ⟨rfl, rfl⟩, hs177⟩
                            ·
                              have h160p : ¬ (r102.2.1 = 0 ∧ r102.2.2.1 = 9 ∧ r102.2.2.2.1 = 0 ∧ r102.2.2.2.2.1 = ByteArray.empty) := by simpa using h160
                              replace hm := ite_no hm h160p
                              refine ops_set 180 (v := .bool false) (eq_bool_of (by kernel_rfl) h160) ?_
                              refine ops_set 178 (v := .bool false) (eq_bool_of (by kernel_rfl) h160) ?_
                              refine ops_set 179 (v := .bool false) (eq_bool_of (by kernel_rfl) h160) ?_
                              refine ops_run 36 (by kernel_rfl) ?_
                              refine ops_done (by kernel_rfl) ?_
                              refine hK157 _ _ ?_
                              clear hK157
                              refine W.ret ?_
                              obtain rfl := some_inj hm
                              have hs178 := St.tk0 hs156
                              refine ret_of (.bool false) (by kernel_rfl) ⟨_, ⟨rfl, rfl⟩, hs178⟩
                          ·
                            have h159p : ¬ (r102.1 = 1) := of_decide_eq_false h159
                            replace hm := ite_no hm h159p
                            refine ops_set 175 (v := .bool false) (eq_bool_of (by kernel_rfl) h159) ?_
                            refine ops_set 173 (v := .bool false) (eq_bool_of (by kernel_rfl) h159) ?_
                            refine ops_set 174 (v := .bool false) (eq_bool_of (by kernel_rfl) h159) ?_
                            refine ops_run 41 (by kernel_rfl) ?_
                            refine ops_done (by kernel_rfl) ?_
                            refine hK157 _ _ ?_
                            clear hK157
                            refine W.ret ?_
                            obtain rfl := some_inj hm
                            have hs179 := St.tk0 hs156
                            refine ret_of (.bool false) (by kernel_rfl) ⟨_, ⟨rfl, rfl⟩, hs179⟩
                        ·
                          have h158p : ¬ (r102.2.2.2.2.2 = 0) := of_decide_eq_false h158
                          replace hm := ite_no hm h158p
                          refine ops_set 171 (v := .bool false) (eq_bool_of (by kernel_rfl) h158) ?_
                          refine ops_set 170 (v := .bool false) (eq_bool_of (by kernel_rfl) h158) ?_
                          refine ops_run 45 (by kernel_rfl) ?_
                          refine ops_done (by kernel_rfl) ?_
                          refine hK157 _ _ ?_
                          clear hK157
                          refine W.ret ?_
                          obtain rfl := some_inj hm
                          have hs180 := St.tk0 hs156
                          refine ret_of (.bool false) (by kernel_rfl) ⟨_, ⟨rfl, rfl⟩, hs180⟩
                      ·
                        refine W.seq fun K181 hK181 => ?_
                        refine W.region ?_
                        refine ops_run 1 (by kernel_rfl) ?_
                        refine ops_done (by kernel_rfl) ?_
                        refine hK181 _ _ ?_
                        clear hK181
                        refine W.block ?_
                        have hs188 := St.f4 hs97
                        have hs189 := St.f3 hs188
                        have hs190 := St.f3 hs189
                        have hs191 := St.f4 hs190
                        have hs192 := St.f4 hs191
                        refine W.loop_iter (G := (List (Int × Int)) × Int) (σ := (List (Int × Int)) × Int) (fun | (l182, p183) => (l182, p183)) (fun | (l182, p183), s_, w_ => (∃ us, s_ = slots 216 [(1, (.pointer (some ⟨b8, 0, none⟩))), (2, (.pointer (some ⟨b23, 0, none⟩))), (15, (.int .i64 p183))] us) ∧ St B w [] w_ [refA (ptr b8) (fmtW 1 2 2) r92.2, viewA (ptr b23) (fmtW 1 2 2) l182, blk b75 (.cells [(.int .i64 r68.2.1), (.int .u64 r68.2.2.1), (.int .u64 r68.2.2.2.1), (.string r68.2.2.2.2.1)].toArray 46 (0, 0)), blk b63 (.cells [(.int .i64 r56.2.1), (.int .u64 r56.2.2.1), (.int .u64 r56.2.2.2.1), (.string r56.2.2.2.2.1)].toArray 46 (0, 0)), kU64.row a3 c4 (fmtW 1 2 2)]) (r50.2.2, 0) ⟨slots_intro _ (by kernel_rfl), hs192⟩ hm ?_
                        rintro k184 ih185 ⟨l182, p183⟩ _ w186 ⟨⟨us, rfl⟩, hs187⟩ hm
                        replace hm : works11_B0 r92 k184 l182 p183 = some r := hm
                        unfold works11_B0 at hm
                        refine W.seq fun K193 hK193 => ?_
                        refine W.seq fun K194 hK194 => ?_
                        obtain ⟨⟨_, ia195, ic196, la197, lc198, mn199⟩, ⟨ex200, hok201⟩, hs202⟩ := St.open hs187
                        have hs203 : St B w [] w186 [blk b8 (.cells [(.slice ia195 ((fmtW 1 2 2).length) ic196), (.slice la197 r92.2.length lc198), (.bool mn199)].toArray 71 (0, 0)), kU64.row ia195 ic196 (fmtW 1 2 2), kWr.row la197 lc198 r92.2, viewA (ptr b23) (fmtW 1 2 2) l182, blk b75 (.cells [(.int .i64 r68.2.1), (.int .u64 r68.2.2.1), (.int .u64 r68.2.2.2.1), (.string r68.2.2.2.2.1)].toArray 46 (0, 0)), blk b63 (.cells [(.int .i64 r56.2.1), (.int .u64 r56.2.2.1), (.int .u64 r56.2.2.2.1), (.string r56.2.2.2.2.1)].toArray 46 (0, 0)), kU64.row a3 c4 (fmtW 1 2 2)] := by cases ex200; exact hs202
                        have := hok201.many
                        refine W.region ?_
                        refine ops_run 4 (by kernel_rfl) ?_
                        refine ops_R (runs_load (ad := ⟨b8, 1, none⟩) (v := (.slice la197 r92.2.length lc198)) (by kernel_rfl) (hs203.cellAt 0 rfl rfl)) ?_
                        refine ops_run 2 (by kernel_rfl) ?_
                        refine ops_done (by kernel_rfl) ?_
                        have hs204 : St B w [] w186 [refA (ptr b8) (fmtW 1 2 2) r92.2, viewA (ptr b23) (fmtW 1 2 2) l182, blk b75 (.cells [(.int .i64 r68.2.1), (.int .u64 r68.2.2.1), (.int .u64 r68.2.2.2.1), (.string r68.2.2.2.2.1)].toArray 46 (0, 0)), blk b63 (.cells [(.int .i64 r56.2.1), (.int .u64 r56.2.2.1), (.int .u64 r56.2.2.2.1), (.string r56.2.2.2.2.1)].toArray 46 (0, 0)), kU64.row a3 c4 (fmtW 1 2 2)] := ref_close (l := r92.2) (ia := ia195) (ic := ic196) (la := la197) (lc := lc198) (many := mn199) hok201 hs203
                        refine hK194 _ _ ?_
                        clear hK194
                        refine W.cond (decide (p183 < (r92.2.length : Int))) (by kernel_rfl) (fun h205 => ?_) (fun h205 => ?_)
                        ·
                          have h205p : p183 < (r92.2.length : Int) := of_decide_eq_true h205
                          replace hm := ite_yes hm h205p
                          refine W.skip ?_
                          refine hK193 _ _ ?_
                          clear hK193
                          refine W.seq fun K206 hK206 => ?_
                          refine W.block ?_
                          obtain ⟨⟨_, ia207, ic208, la209, lc210, mn211⟩, ⟨ex212, hok213⟩, hs214⟩ := St.open hs204
                          have hs215 : St B w [] w186 [blk b8 (.cells [(.slice ia207 ((fmtW 1 2 2).length) ic208), (.slice la209 r92.2.length lc210), (.bool mn211)].toArray 71 (0, 0)), kU64.row ia207 ic208 (fmtW 1 2 2), kWr.row la209 lc210 r92.2, viewA (ptr b23) (fmtW 1 2 2) l182, blk b75 (.cells [(.int .i64 r68.2.1), (.int .u64 r68.2.2.1), (.int .u64 r68.2.2.2.1), (.string r68.2.2.2.2.1)].toArray 46 (0, 0)), blk b63 (.cells [(.int .i64 r56.2.1), (.int .u64 r56.2.2.1), (.int .u64 r56.2.2.2.1), (.string r56.2.2.2.2.1)].toArray 46 (0, 0)), kU64.row a3 c4 (fmtW 1 2 2)] := by cases ex212; exact hs214
                          have := hok213.many
                          have hs216 := hs215.drew
                          have hs217 := St.f6 hs216
                          have hs218 := St.f6 hs217
                          have hs219 := St.f6 hs218
                          have hs220 := St.f5 hs219
                          have hs221 := St.f5 hs220
                          have hs222 := St.f5 hs221
                          have hs223 := St.tk6 hs222
                          refine W.regionD [(0, 0), (0, 0), (2, 2), (4, 4), (8, 8), (0, 0), (48, 48), (64, 64), (128, 128), (0, 0), (512, 512), (1024, 1024), (2048, 2048), (0, 0), (12288, 12288), (16384, 16384), (32768, 32768), (65793, 65793)] (fun w_ => St B w [] w_ [blk b8 (.cells [(.slice ia207 ((fmtW 1 2 2).length) ic208), (.slice la209 r92.2.length lc210), (.bool mn211)].toArray 71 (0, 0)), kU64.row ia207 ic208 (fmtW 1 2 2), kWr.row la209 lc210 r92.2, blk b75 (.cells [(.int .i64 r68.2.1), (.int .u64 r68.2.2.1), (.int .u64 r68.2.2.2.1), (.string r68.2.2.2.2.1)].toArray 46 (0, 0)), blk b63 (.cells [(.int .i64 r56.2.1), (.int .u64 r56.2.2.1), (.int .u64 r56.2.2.2.1), (.string r56.2.2.2.2.1)].toArray 46 (0, 0)), kU64.row a3 c4 (fmtW 1 2 2)]) (by kernel_rfl) hs223 ?_
                          refine any_val (v := (.pointer (some ⟨b23, 0, none⟩))) (v' := (.pointer (some ⟨b23, 0, none⟩))) 0 (by kernel_rfl) (fun _ => by kernel_rfl) rfl hs223 ?_
                          refine any_val (v := (.pointer (some ⟨b8, 0, none⟩))) (v' := (.pointer (some ⟨b8, 0, none⟩))) 1 (by kernel_rfl) (fun _ => by kernel_rfl) rfl hs223 ?_
                          refine any_val (v := (.pointer (some ⟨b8, 0, none⟩))) (v' := (.pointer (some ⟨b8, 0, none⟩))) 2 (by kernel_rfl) (fun _ => by kernel_rfl) rfl hs223 ?_
                          refine any_val (v := (.pointer (some ⟨b8, 1, none⟩))) (v' := (.pointer (some ⟨b8, 1, none⟩))) 3 (by kernel_rfl) (fun _ => by kernel_rfl) rfl hs223 ?_
                          refine any_R 4 (by kernel_rfl) (fun _ hS_ => runs_load (ad := ⟨b8, 1, none⟩) (v := (.slice la209 r92.2.length lc210)) (by kernel_rfl) (hS_.cellAt 0 rfl rfl)) hs223 ?_
                          refine any_val (v := (.int .i64 p183)) (v' := (.int .i64 p183)) 5 (by kernel_rfl) (fun _ => by kernel_rfl) rfl hs223 ?_
                          obtain ⟨h225, hm⟩ := need_some hm
                          have hk224 := lt_toNat h225
                          refine any_R 6 (by kernel_rfl) (fun _ hS_ => runs_index (a := la209) (n := r92.2.length) (z := p183) (size := 2) p183.toNat (nat_of h225.1) hk224 (kWr.addr (St.kcells kWr hs216 2 rfl) hk224) (by kernel_rfl)) hs223 ?_
                          refine any_val (v := (.pointer (some (adr la209 (p183.toNat * 2))))) (v' := (.pointer (some (adr la209 (p183.toNat * 2))))) 7 (by kernel_rfl) (fun _ => by kernel_rfl) rfl hs223 ?_
                          refine any_R 8 (by kernel_rfl) (fun _ hS_ => runs_load (ad := ((adr la209 (p183.toNat * 2)).add 0)) (v := (.int .i64 ((r92.2.getD p183.toNat (0, 0)).1))) (by kernel_rfl) (kWr.at (St.kcells kWr hS_ 2 rfl) hk224 (0, 0) 0 rfl)) hs223 ?_
                          refine any_val (v := (.pointer (some ⟨b8, 0, none⟩))) (v' := (.pointer (some ⟨b8, 0, none⟩))) 9 (by kernel_rfl) (fun _ => by kernel_rfl) rfl hs223 ?_
                          refine any_val (v := (.pointer (some ⟨b8, 0, none⟩))) (v' := (.pointer (some ⟨b8, 0, none⟩))) 10 (by kernel_rfl) (fun _ => by kernel_rfl) rfl hs223 ?_
                          refine any_val (v := (.pointer (some ⟨b8, 1, none⟩))) (v' := (.pointer (some ⟨b8, 1, none⟩))) 11 (by kernel_rfl) (fun _ => by kernel_rfl) rfl hs223 ?_
                          refine any_R 12 (by kernel_rfl) (fun _ hS_ => runs_load (ad := ⟨b8, 1, none⟩) (v := (.slice la209 r92.2.length lc210)) (by kernel_rfl) (hS_.cellAt 0 rfl rfl)) hs223 ?_
                          refine any_val (v := (.int .i64 p183)) (v' := (.int .i64 p183)) 13 (by kernel_rfl) (fun _ => by kernel_rfl) rfl hs223 ?_
                          obtain ⟨h227, hm⟩ := need_some hm
                          have hk226 := lt_toNat h227
                          refine any_R 14 (by kernel_rfl) (fun _ hS_ => runs_index (a := la209) (n := r92.2.length) (z := p183) (size := 2) p183.toNat (nat_of h227.1) hk226 (kWr.addr (St.kcells kWr hs216 2 rfl) hk226) (by kernel_rfl)) hs223 ?_
                          refine any_val (v := (.pointer (some ((adr la209 (p183.toNat * 2)).add 1)))) (v' := (.pointer (some ((adr la209 (p183.toNat * 2)).add 1)))) 15 (by kernel_rfl) (fun _ => by kernel_rfl) rfl hs223 ?_
                          refine any_R 16 (by kernel_rfl) (fun _ hS_ => runs_load (ad := ((adr la209 (p183.toNat * 2)).add 1)) (v := (.int .u64 ((r92.2.getD p183.toNat (0, 0)).2))) (by kernel_rfl) (kWr.at (St.kcells kWr hS_ 2 rfl) hk226 (0, 0) 1 rfl)) hs223 ?_
                          refine any_step 17 (by kernel_rfl) (by kernel_rfl) ?_
                          obtain ⟨r228, h229, hm⟩ := bind_some hm
                          replace h229 := some_inj h229
                          have hs232 := St.f3 hs216
                          refine ops_call1 hs232 (by kernel_rfl) (put_spec (p := (.pointer (some ⟨b23, 0, none⟩))) (img := (fmtW 1 2 2)) (l := l182) (at_ := (r92.2.getD p183.toNat (0, 0)).1) (x_ := (r92.2.getD p183.toNat (0, 0)).2) B _) ?_
                          rintro _ _ w233 ⟨hv230, hH231⟩ hs234
                          rw [h229] at hv230
                          try rw [h229] at hH231
                          subst hv230 hH231
                          have hs235 := St.ap1 hs234
                          have hs236 := St.f6 hs235
                          have hs237 := St.f6 hs236
                          have hs238 := St.f6 hs237
                          have hs239 := St.f6 hs238
                          have hs240 := St.f6 hs239
                          have hs241 := St.f6 hs240
                          have hs242 := St.tk6 hs241
                          refine ops_done (by kernel_rfl) ⟨hs242, ?_⟩
                          refine any_done (by kernel_rfl) ?_
                          have hs243 := St.f6 hs235
                          have hs244 := St.f6 hs243
                          have hs245 := St.f6 hs244
                          have hs246 := St.f3 hs245
                          have hs247 := St.f6 hs246
                          have hs248 := St.f6 hs247
                          have hs249 := St.f6 hs248
                          have hs250 : St B w [] w233 [refA (ptr b8) (fmtW 1 2 2) r92.2, viewA (ptr b23) (fmtW 1 2 2) r228.2, blk b75 (.cells [(.int .i64 r68.2.1), (.int .u64 r68.2.2.1), (.int .u64 r68.2.2.2.1), (.string r68.2.2.2.2.1)].toArray 46 (0, 0)), blk b63 (.cells [(.int .i64 r56.2.1), (.int .u64 r56.2.2.1), (.int .u64 r56.2.2.2.1), (.string r56.2.2.2.2.1)].toArray 46 (0, 0)), kU64.row a3 c4 (fmtW 1 2 2)] := ref_close (l := r92.2) (ia := ia207) (ic := ic208) (la := la209) (lc := lc210) (many := mn211) hok213 hs249
                          refine normal_block ?_
                          refine hK206 _ _ ?_
                          clear hK206
                          refine W.region ?_
                          refine ops_run 1 (by kernel_rfl) ?_
                          obtain ⟨h251, hm⟩ := need_some hm
                          refine ops_val (v := .int .i64 (IntKind.i64.wrap (p183 + 1))) (v' := .int .i64 (p183 + 1)) (by kernel_rfl) (congrArg (Value.int .i64) (wrap_i64 h251.1 h251.2)) ?_
                          refine ops_run 1 (by kernel_rfl) ?_
                          refine ops_done (by kernel_rfl) ?_
                          refine loopAt_next ?_
                          exact ih185 (r228.2, (p183 + 1)) _ _ ⟨slots_intro _ (by kernel_rfl), hs250⟩ hm
                        ·
                          have h205p : ¬ (p183 < (r92.2.length : Int)) := of_decide_eq_false h205
                          replace hm := ite_no hm h205p
                          refine W.exit (exit_seq (exit_seq (exit_here ?_)))
                          have hs252 := St.f4 hs204
                          have hs253 := St.f4 hs252
                          have hs254 := St.f4 hs253
                          have hs255 := St.f3 hs254
                          have hs256 := St.f4 hs255
                          exact ⟨l182, slots_intro _ (by kernel_rfl), hs256, hm⟩
                    ·
                      have h90p : ¬ (r68.1 = 3) := of_decide_eq_false (bnot_true h90)
                      replace hm := ite_no hm h90p
                      refine W.seq fun K257 hK257 => ?_
                      refine W.region ?_
                      refine ops_run 1 (by kernel_rfl) ?_
                      refine ops_done (by kernel_rfl) ?_
                      refine hK257 _ _ ?_
                      clear hK257
                      refine W.ret (ret_seq ?_)
                      obtain rfl := some_inj hm
                      have hs258 := St.tk0 hs78
                      refine ret_of (.bool false) (by kernel_rfl) ⟨_, ⟨rfl, rfl⟩, hs258⟩
                  ·
                    have h89p : ¬ (r56.1 = 0) := of_decide_eq_false (bnot_true h89)
                    replace hm := ite_no hm h89p
                    refine ops_set 102 (v := .bool true) (eq_bool_of (by kernel_rfl) h89) ?_
                    refine ops_set 100 (v := .bool true) (eq_bool_of (by kernel_rfl) h89) ?_
                    refine ops_set 101 (v := .bool true) (eq_bool_of (by kernel_rfl) h89) ?_
                    refine ops_run 3 (by kernel_rfl) ?_
                    refine ops_done (by kernel_rfl) ?_
                    refine hK80 _ _ ?_
                    clear hK80
                    refine W.cond_true true (by kernel_rfl) rfl ?_
                    refine W.seq fun K259 hK259 => ?_
                    refine W.region ?_
                    refine ops_run 1 (by kernel_rfl) ?_
                    refine ops_done (by kernel_rfl) ?_
                    refine hK259 _ _ ?_
                    clear hK259
                    refine W.ret (ret_seq ?_)
                    obtain rfl := some_inj hm
                    have hs260 := St.tk0 hs78
                    refine ret_of (.bool false) (by kernel_rfl) ⟨_, ⟨rfl, rfl⟩, hs260⟩
                ·
                  have h88p : ¬ (r50.1 = 1) := of_decide_eq_false (bnot_true h88)
                  replace hm := ite_no hm h88p
                  refine ops_set 98 (v := .bool true) (eq_bool_of (by kernel_rfl) h88) ?_
                  refine ops_set 96 (v := .bool true) (eq_bool_of (by kernel_rfl) h88) ?_
                  refine ops_set 97 (v := .bool true) (eq_bool_of (by kernel_rfl) h88) ?_
                  refine ops_run 7 (by kernel_rfl) ?_
                  refine ops_done (by kernel_rfl) ?_
                  refine hK80 _ _ ?_
                  clear hK80
                  refine W.cond_true true (by kernel_rfl) rfl ?_
                  refine W.seq fun K261 hK261 => ?_
                  refine W.region ?_
                  refine ops_run 1 (by kernel_rfl) ?_
                  refine ops_done (by kernel_rfl) ?_
                  refine hK261 _ _ ?_
                  clear hK261
                  refine W.ret (ret_seq ?_)
                  obtain rfl := some_inj hm
                  have hs262 := St.tk0 hs78
                  refine ret_of (.bool false) (by kernel_rfl) ⟨_, ⟨rfl, rfl⟩, hs262⟩
              ·
                have h87p : ¬ (r44.1 = 0) := of_decide_eq_false (bnot_true h87)
                replace hm := ite_no hm h87p
                refine ops_set 94 (v := .bool true) (eq_bool_of (by kernel_rfl) h87) ?_
                refine ops_set 92 (v := .bool true) (eq_bool_of (by kernel_rfl) h87) ?_
                refine ops_set 93 (v := .bool true) (eq_bool_of (by kernel_rfl) h87) ?_
                refine ops_run 11 (by kernel_rfl) ?_
                refine ops_done (by kernel_rfl) ?_
                refine hK80 _ _ ?_
                clear hK80
                refine W.cond_true true (by kernel_rfl) rfl ?_
                refine W.seq fun K263 hK263 => ?_
                refine W.region ?_
                refine ops_run 1 (by kernel_rfl) ?_
                refine ops_done (by kernel_rfl) ?_
                refine hK263 _ _ ?_
                clear hK263
                refine W.ret (ret_seq ?_)
                obtain rfl := some_inj hm
                have hs264 := St.tk0 hs78
                refine ret_of (.bool false) (by kernel_rfl) ⟨_, ⟨rfl, rfl⟩, hs264⟩
            ·
              have h86p : ¬ (r37.1 = 3) := of_decide_eq_false (bnot_true h86)
              replace hm := ite_no hm h86p
              refine ops_set 90 (v := .bool true) (eq_bool_of (by kernel_rfl) h86) ?_
              refine ops_set 88 (v := .bool true) (eq_bool_of (by kernel_rfl) h86) ?_
              refine ops_set 89 (v := .bool true) (eq_bool_of (by kernel_rfl) h86) ?_
              refine ops_run 15 (by kernel_rfl) ?_
              refine ops_done (by kernel_rfl) ?_
              refine hK80 _ _ ?_
              clear hK80
              refine W.cond_true true (by kernel_rfl) rfl ?_
              refine W.seq fun K265 hK265 => ?_
              refine W.region ?_
              refine ops_run 1 (by kernel_rfl) ?_
              refine ops_done (by kernel_rfl) ?_
              refine hK265 _ _ ?_
              clear hK265
              refine W.ret (ret_seq ?_)
              obtain rfl := some_inj hm
              have hs266 := St.tk0 hs78
              refine ret_of (.bool false) (by kernel_rfl) ⟨_, ⟨rfl, rfl⟩, hs266⟩
          ·
            have h85p : ¬ (r68.2.2.2.2.2 = 0) := of_decide_eq_false (bnot_true h85)
            replace hm := ite_no hm h85p
            refine ops_set 86 (v := .bool true) (eq_bool_of (by kernel_rfl) h85) ?_
            refine ops_set 84 (v := .bool true) (eq_bool_of (by kernel_rfl) h85) ?_
            refine ops_set 85 (v := .bool true) (eq_bool_of (by kernel_rfl) h85) ?_
            refine ops_run 19 (by kernel_rfl) ?_
            refine ops_done (by kernel_rfl) ?_
            refine hK80 _ _ ?_
            clear hK80
            refine W.cond_true true (by kernel_rfl) rfl ?_
            refine W.seq fun K267 hK267 => ?_
            refine W.region ?_
            refine ops_run 1 (by kernel_rfl) ?_
            refine ops_done (by kernel_rfl) ?_
            refine hK267 _ _ ?_
            clear hK267
            refine W.ret (ret_seq ?_)
            obtain rfl := some_inj hm
            have hs268 := St.tk0 hs78
            refine ret_of (.bool false) (by kernel_rfl) ⟨_, ⟨rfl, rfl⟩, hs268⟩
        ·
          have h84p : ¬ (r56.2.2.2.2.2 = 0) := of_decide_eq_false (bnot_true h84)
          replace hm := ite_no hm h84p
          refine ops_set 82 (v := .bool true) (eq_bool_of (by kernel_rfl) h84) ?_
          refine ops_set 80 (v := .bool true) (eq_bool_of (by kernel_rfl) h84) ?_
          refine ops_set 81 (v := .bool true) (eq_bool_of (by kernel_rfl) h84) ?_
          refine ops_run 23 (by kernel_rfl) ?_
          refine ops_done (by kernel_rfl) ?_
          refine hK80 _ _ ?_
          clear hK80
          refine W.cond_true true (by kernel_rfl) rfl ?_
          refine W.seq fun K269 hK269 => ?_
          refine W.region ?_
          refine ops_run 1 (by kernel_rfl) ?_
          refine ops_done (by kernel_rfl) ?_
          refine hK269 _ _ ?_
          clear hK269
          refine W.ret (ret_seq ?_)
          obtain rfl := some_inj hm
          have hs270 := St.tk0 hs78
          refine ret_of (.bool false) (by kernel_rfl) ⟨_, ⟨rfl, rfl⟩, hs270⟩
      ·
        have h83p : ¬ (r50.2.1 = 0) := of_decide_eq_false (bnot_true h83)
        replace hm := ite_no hm h83p
        refine ops_set 78 (v := .bool true) (eq_bool_of (by kernel_rfl) h83) ?_
        refine ops_set 76 (v := .bool true) (eq_bool_of (by kernel_rfl) h83) ?_
        refine ops_set 77 (v := .bool true) (eq_bool_of (by kernel_rfl) h83) ?_
        refine ops_run 27 (by kernel_rfl) ?_
        refine ops_done (by kernel_rfl) ?_
        refine hK80 _ _ ?_
        clear hK80
        refine W.cond_true true (by kernel_rfl) rfl ?_
        refine W.seq fun K271 hK271 => ?_
        refine W.region ?_
        refine ops_run 1 (by kernel_rfl) ?_
        refine ops_done (by kernel_rfl) ?_
        refine hK271 _ _ ?_
        clear hK271
        refine W.ret (ret_seq ?_)
        obtain rfl := some_inj hm
        have hs272 := St.tk0 hs78
        refine ret_of (.bool false) (by kernel_rfl) ⟨_, ⟨rfl, rfl⟩, hs272⟩
    ·
      have h82p : ¬ (r44.2.1 = 0) := of_decide_eq_false (bnot_true h82)
      replace hm := ite_no hm h82p
      refine ops_set 74 (v := .bool true) (eq_bool_of (by kernel_rfl) h82) ?_
      refine ops_set 72 (v := .bool true) (eq_bool_of (by kernel_rfl) h82) ?_
      refine ops_set 73 (v := .bool true) (eq_bool_of (by kernel_rfl) h82) ?_
      refine ops_run 31 (by kernel_rfl) ?_
      refine ops_done (by kernel_rfl) ?_
      refine hK80 _ _ ?_
      clear hK80
      refine W.cond_true true (by kernel_rfl) rfl ?_
      refine W.seq fun K273 hK273 => ?_
      refine W.region ?_
      refine ops_run 1 (by kernel_rfl) ?_
      refine ops_done (by kernel_rfl) ?_
      refine hK273 _ _ ?_
      clear hK273
      refine W.ret (ret_seq ?_)
      obtain rfl := some_inj hm
      have hs274 := St.tk0 hs78
      refine ret_of (.bool false) (by kernel_rfl) ⟨_, ⟨rfl, rfl⟩, hs274⟩
  ·
    have h81p : ¬ (r37.2.1 = 0) := of_decide_eq_false (bnot_true h81)
    replace hm := ite_no hm h81p
    refine ops_set 70 (v := .bool true) (eq_bool_of (by kernel_rfl) h81) ?_
    refine ops_set 69 (v := .bool true) (eq_bool_of (by kernel_rfl) h81) ?_
    refine ops_run 35 (by kernel_rfl) ?_
    refine ops_done (by kernel_rfl) ?_
    refine hK80 _ _ ?_
    clear hK80
    refine W.cond_true true (by kernel_rfl) rfl ?_
    refine W.seq fun K275 hK275 => ?_
    refine W.region ?_
    refine ops_run 1 (by kernel_rfl) ?_
    refine ops_done (by kernel_rfl) ?_
    refine hK275 _ _ ?_
    clear hK275
    refine W.ret (ret_seq ?_)
    obtain rfl := some_inj hm
    have hs276 := St.tk0 hs78
    refine ret_of (.bool false) (by kernel_rfl) ⟨_, ⟨rfl, rfl⟩, hs276⟩

end Go.Proofs.YthimamnblklkbaaDoor

/- The example's answer. -/
namespace Go.Proofs.YthimamnblklkbaaDoor
open Go Go.RowKit
set_option maxRecDepth 100000 in
set_option maxHeartbeats 4000000 in
theorem works11_eq : works11_M = some true := by decide +kernel
end Go.Proofs.YthimamnblklkbaaDoor

/- What the code computes, by a program. -/
namespace Go.Proofs.YthimamnblklkbaaDoor
open Go Go.RowKit
set_option linter.unusedSimpArgs false
set_option linter.unusedVariables false

def keep11_B0 (img : List Int) (r35 : Int × List (Int × Int)) (k44 : ((List (Int × Int)) × Int) → Option (List (Int × Int) × List (Int × Int))) (l42 : List (Int × Int)) (p43 : Int) : Option (List (Int × Int) × List (Int × Int)) :=
  if p43 < (r35.2.length : Int) then (need (0 ≤ p43 ∧ p43 < (r35.2.length : Int)) <|
need (0 ≤ p43 ∧ p43 < (r35.2.length : Int)) <|
(some (vput img l42 ((r35.2.getD p43.toNat (0, 0)).1) ((r35.2.getD p43.toNat (0, 0)).2))).bind fun r87 =>
need (-9223372036854775808 ≤ (p43 + 1) ∧ (p43 + 1) ≤ 9223372036854775807) <|
k44 (r87.2, (p43 + 1))) else (some (l42, r35.2))

def keep11_M (img : List Int) (l : List (Int × Int)) (m : List (Int × Int)) (i_ : Int) (q_ : Int) (re_ : Int) (ra_ : Int) (rb_ : Int) (rs_ : ByteArray) : Option (List (Int × Int) × List (Int × Int)) :=
  need (-9223372036854775808 ≤ (q_.tmod 4) ∧ (q_.tmod 4) ≤ 9223372036854775807) <|
(rsave_M img m i_ (q_.tmod 4) q_ re_ ra_ rb_ rs_).bind fun r35 =>
if r35.1 = 0 then (iter (fun k_ s_ => keep11_B0 img r35 k_ s_.1 s_.2) FUEL (l, 0)) else (some (l, m))

set_option maxRecDepth 20000 in
set_option maxHeartbeats 4000000 in
set_option linter.unusedVariables false in
theorem keep11_walk {img : List Int} {l : List (Int × Int)} {m : List (Int × Int)} {do_ : Int} {i_ : Int} {g_ : Int} {q_ : Int} {re_ : Int} {ra_ : Int} {rb_ : Int} {rs_ : ByteArray} {dr_ : Bool} {vb rb : Nat} {r : List (Int × Int) × List (Int × Int)} (B : Nat) (w : World) (hm : keep11_M img l m i_ q_ re_ ra_ rb_ rs_ = some r) : Spec Tryd.prog 74 #[(.pointer (some ⟨vb, 0, none⟩)), (.pointer (some ⟨rb, 0, none⟩)), (.agg #[(.int .u8 do_), (.int .i64 i_), (.int .u64 g_), (.int .u64 q_), (.int .i64 re_), (.int .u64 ra_), (.int .u64 rb_), (.string rs_), (.bool dr_)])] B w [viewA (ptr vb) img l, refA (ptr rb) img m] (fun v H' => v = .tuple #[] ∧ H' = [viewA (ptr vb) img r.1, refA (ptr rb) img r.2]) := by
  refine spec_W Tryd.func74 rfl fun l0 hs => ?_
  unfold keep11_M at hm
  refine W.seq fun K1 hK1 => ?_
  refine W.region ?_
  refine ops_new (fun b => .pointer (some ⟨b, 0, none⟩)) (.cells [(.int .u8 do_), (.int .i64 i_), (.int .u64 g_), (.int .u64 q_), (.int .i64 re_), (.int .u64 ra_), (.int .u64 rb_), (.string rs_), (.bool dr_)].toArray 110 (0, 0)) hs (by kernel_rfl) (fun b4 w2 hs3 => ?_)
  refine ops_done (by kernel_rfl) ?_
  refine hK1 _ _ ?_
  clear hK1
  refine W.seq fun K5 hK5 => ?_
  have hs6 := St.f2 hs3
  obtain ⟨⟨_, ia7, ic8, la9, lc10, mn11⟩, ⟨ex12, hok13⟩, hs14⟩ := St.open hs6
  have hs15 : St B w l0 w2 [blk rb (.cells [(.slice ia7 img.length ic8), (.slice la9 m.length lc10), (.bool mn11)].toArray 71 (0, 0)), kU64.row ia7 ic8 img, kWr.row la9 lc10 m, blk b4 (.cells [(.int .u8 do_), (.int .i64 i_), (.int .u64 g_), (.int .u64 q_), (.int .i64 re_), (.int .u64 ra_), (.int .u64 rb_), (.string rs_), (.bool dr_)].toArray 110 (0, 0)), viewA (ptr vb) img l] := by cases ex12; exact hs14
  have := hok13.many
  refine W.region ?_
  refine ops_new (fun b => .slice (some ⟨b, 0, none⟩) 0 0) (.cells [].toArray 177 (0, 0)) hs15 (by kernel_rfl) (fun b18 w16 hs17 => ?_)
  refine ops_run 3 (by kernel_rfl) ?_
  refine ops_R (runs_load (ad := ⟨rb, 1, none⟩) (v := (.slice la9 m.length lc10)) (by kernel_rfl) (hs17.cellAt 1 rfl rfl)) ?_
  have hs19 : St B w l0 w16 [kWr.row (some ⟨b18, 0, none⟩) 0 ([]), blk rb (.cells [(.slice ia7 img.length ic8), (.slice la9 m.length lc10), (.bool mn11)].toArray 71 (0, 0)), kU64.row ia7 ic8 img, kWr.row la9 lc10 m, blk b4 (.cells [(.int .u8 do_), (.int .i64 i_), (.int .u64 g_), (.int .u64 q_), (.int .i64 re_), (.int .u64 ra_), (.int .u64 rb_), (.string rs_), (.bool dr_)].toArray 110 (0, 0)), viewA (ptr vb) img l] := St.kblk kWr [] hs17 rfl rfl (by simp only [List.length_cons, List.length_nil]; decide)
  refine ops_appendK kWr (bytes := 16) (a' := la9) (c' := lc10) (l := []) (m := m) hs19 (by kernel_rfl) (St.capnil kWr hs19 3 rfl) (St.kcells kWr hs19 3 rfl) (by (unfold maxLen; try simp) <;> omega) (by (try simp) <;> omega) (fun a20 c21 w22 hs23 => ?_)
  have hs24 : St B w l0 w22 [kWr.row a20 c21 m, blk rb (.cells [(.slice ia7 img.length ic8), (.slice la9 m.length lc10), (.bool mn11)].toArray 71 (0, 0)), kU64.row ia7 ic8 img, kWr.row la9 lc10 m, blk b4 (.cells [(.int .u8 do_), (.int .i64 i_), (.int .u64 g_), (.int .u64 q_), (.int .i64 re_), (.int .u64 ra_), (.int .u64 rb_), (.string rs_), (.bool dr_)].toArray 110 (0, 0)), viewA (ptr vb) img l] := hs23
  refine ops_run 1 (by kernel_rfl) ?_
  refine ops_done (by kernel_rfl) ?_
  have hs25 := St.f5 hs24
  have hs26 := St.f5 hs25
  have hs27 := St.f2 hs26
  have hs28 := St.f5 hs27
  have hs29 := St.f5 hs28
  have hs30 := St.f5 hs29
  have hs31 : St B w l0 w22 [refA (ptr rb) img m, kWr.row a20 c21 m, blk b4 (.cells [(.int .u8 do_), (.int .i64 i_), (.int .u64 g_), (.int .u64 q_), (.int .i64 re_), (.int .u64 ra_), (.int .u64 rb_), (.string rs_), (.bool dr_)].toArray 110 (0, 0)), viewA (ptr vb) img l] := ref_close (l := m) (ia := ia7) (ic := ic8) (la := la9) (lc := lc10) (many := mn11) hok13 hs30
  refine hK5 _ _ ?_
  clear hK5
  refine W.seq fun K32 hK32 => ?_
  refine W.seq fun K33 hK33 => ?_
  refine W.region ?_
  refine ops_run 2 (by kernel_rfl) ?_
  refine ops_R (runs_load (ad := ⟨b4, 1, none⟩) (v := (.int .i64 i_)) (by kernel_rfl) (hs31.cellAt 2 rfl rfl)) ?_
  refine ops_run 1 (by kernel_rfl) ?_
  refine ops_R (runs_load (ad := ⟨b4, 3, none⟩) (v := (.int .u64 q_)) (by kernel_rfl) (hs31.cellAt 2 rfl rfl)) ?_
  refine ops_run 1 (by kernel_rfl) ?_
  obtain ⟨h34, hm⟩ := need_some hm
  refine ops_val (v := .int .i64 (IntKind.i64.wrap (q_.tmod 4))) (v' := .int .i64 (q_.tmod 4)) (by kernel_rfl) (congrArg (Value.int .i64) (wrap_i64 h34.1 h34.2)) ?_
  refine ops_run 1 (by kernel_rfl) ?_
  refine ops_R (runs_load (ad := ⟨b4, 3, none⟩) (v := (.int .u64 q_)) (by kernel_rfl) (hs31.cellAt 2 rfl rfl)) ?_
  refine ops_run 1 (by kernel_rfl) ?_
  refine ops_R (runs_loadAgg (ad := ⟨b4, 4, none⟩) (cs := [(.int .i64 re_), (.int .u64 ra_), (.int .u64 rb_), (.string rs_)]) (by kernel_rfl) (cells_sub (hs31.heapAt 2 rfl) rfl)) ?_
  obtain ⟨r35, h36, hm⟩ := bind_some hm
  refine ops_call1 hs31 (by kernel_rfl) (rsave_walk (vb := rb) (i_ := i_) (k_ := q_.tmod 4) (q_ := q_) (re_ := re_) (ra_ := ra_) (rb_ := rb_) (rs_ := rs_) (img := img) (l := m) (hm := h36) B _) ?_
  rintro _ _ w37 ⟨rfl, rfl⟩ hs38
  have hs39 := St.ap1 hs38
  refine ops_run 1 (by kernel_rfl) ?_
  refine ops_done (by kernel_rfl) ?_
  refine hK33 _ _ ?_
  clear hK33
  refine W.cond (!decide (r35.1 = 0)) (by kernel_rfl) (fun h40 => ?_) (fun h40 => ?_)
  rotate_left
  ·
    have h40p : r35.1 = 0 := of_decide_eq_true (bnot_false h40)
    replace hm := ite_yes hm h40p
    refine W.skip ?_
    refine hK32 _ _ ?_
    clear hK32
    refine W.seq fun K41 hK41 => ?_
    refine W.region ?_
    refine ops_run 1 (by kernel_rfl) ?_
    refine ops_done (by kernel_rfl) ?_
    refine hK41 _ _ ?_
    clear hK41
    refine W.block ?_
    have hs48 := St.f2 hs39
    have hs49 := St.f2 hs48
    have hs50 := St.f2 hs49
    have hs51 := St.f3 hs50
    refine W.loop_iter (G := (List (Int × Int)) × Int) (σ := (List (Int × Int)) × Int) (fun | (l42, p43) => (l42, p43)) (fun | (l42, p43), s_, w_ => (∃ us, s_ = slots 58 [(0, (.pointer (some ⟨vb, 0, none⟩))), (1, (.pointer (some ⟨rb, 0, none⟩))), (7, (.int .i64 p43))] us) ∧ St B w l0 w_ [viewA (ptr vb) img l42, refA (ptr rb) img r35.2, kWr.row a20 c21 m, blk b4 (.cells [(.int .u8 do_), (.int .i64 i_), (.int .u64 g_), (.int .u64 q_), (.int .i64 re_), (.int .u64 ra_), (.int .u64 rb_), (.string rs_), (.bool dr_)].toArray 110 (0, 0))]) (l, 0) ⟨slots_intro _ (by kernel_rfl), hs51⟩ hm ?_
    rintro k44 ih45 ⟨l42, p43⟩ _ w46 ⟨⟨us, rfl⟩, hs47⟩ hm
    replace hm : keep11_B0 img r35 k44 l42 p43 = some r := hm
    unfold keep11_B0 at hm
    refine W.seq fun K52 hK52 => ?_
    refine W.seq fun K53 hK53 => ?_
    have hs54 := St.f1 hs47
    obtain ⟨⟨_, ia55, ic56, la57, lc58, mn59⟩, ⟨ex60, hok61⟩, hs62⟩ := St.open hs54
    have hs63 : St B w l0 w46 [blk rb (.cells [(.slice ia55 img.length ic56), (.slice la57 r35.2.length lc58), (.bool mn59)].toArray 71 (0, 0)), kU64.row ia55 ic56 img, kWr.row la57 lc58 r35.2, viewA (ptr vb) img l42, kWr.row a20 c21 m, blk b4 (.cells [(.int .u8 do_), (.int .i64 i_), (.int .u64 g_), (.int .u64 q_), (.int .i64 re_), (.int .u64 ra_), (.int .u64 rb_), (.string rs_), (.bool dr_)].toArray 110 (0, 0))] := by cases ex60; exact hs62
    have := hok61.many
    refine W.region ?_
    refine ops_run 4 (by kernel_rfl) ?_
    refine ops_R (runs_load (ad := ⟨rb, 1, none⟩) (v := (.slice la57 r35.2.length lc58)) (by kernel_rfl) (hs63.cellAt 0 rfl rfl)) ?_
    refine ops_run 2 (by kernel_rfl) ?_
    refine ops_done (by kernel_rfl) ?_
    have hs64 : St B w l0 w46 [refA (ptr rb) img r35.2, viewA (ptr vb) img l42, kWr.row a20 c21 m, blk b4 (.cells [(.int .u8 do_), (.int .i64 i_), (.int .u64 g_), (.int .u64 q_), (.int .i64 re_), (.int .u64 ra_), (.int .u64 rb_), (.string rs_), (.bool dr_)].toArray 110 (0, 0))] := ref_close (l := r35.2) (ia := ia55) (ic := ic56) (la := la57) (lc := lc58) (many := mn59) hok61 hs63
    refine hK53 _ _ ?_
    clear hK53
    refine W.cond (decide (p43 < (r35.2.length : Int))) (by kernel_rfl) (fun h65 => ?_) (fun h65 => ?_)
    ·
      have h65p : p43 < (r35.2.length : Int) := of_decide_eq_true h65
      replace hm := ite_yes hm h65p
      refine W.skip ?_
      refine hK52 _ _ ?_
      clear hK52
      refine W.seq fun K66 hK66 => ?_
      refine W.block ?_
      obtain ⟨⟨_, ia67, ic68, la69, lc70, mn71⟩, ⟨ex72, hok73⟩, hs74⟩ := St.open hs64
      have hs75 : St B w l0 w46 [blk rb (.cells [(.slice ia67 img.length ic68), (.slice la69 r35.2.length lc70), (.bool mn71)].toArray 71 (0, 0)), kU64.row ia67 ic68 img, kWr.row la69 lc70 r35.2, viewA (ptr vb) img l42, kWr.row a20 c21 m, blk b4 (.cells [(.int .u8 do_), (.int .i64 i_), (.int .u64 g_), (.int .u64 q_), (.int .i64 re_), (.int .u64 ra_), (.int .u64 rb_), (.string rs_), (.bool dr_)].toArray 110 (0, 0))] := by cases ex72; exact hs74
      have := hok73.many
      have hs76 := hs75.drew
      have hs77 := St.f5 hs76
      have hs78 := St.f5 hs77
      have hs79 := St.f4 hs78
      have hs80 := St.f4 hs79
      have hs81 := St.f4 hs80
      have hs82 := St.tk5 hs81
      refine W.regionD [(0, 0), (0, 0), (2, 2), (4, 4), (8, 8), (0, 0), (48, 48), (64, 64), (128, 128), (0, 0), (512, 512), (1024, 1024), (2048, 2048), (0, 0), (12288, 12288), (16384, 16384), (32768, 32768), (65793, 65793)] (fun w_ => St B w l0 w_ [blk rb (.cells [(.slice ia67 img.length ic68), (.slice la69 r35.2.length lc70), (.bool mn71)].toArray 71 (0, 0)), kU64.row ia67 ic68 img, kWr.row la69 lc70 r35.2, kWr.row a20 c21 m, blk b4 (.cells [(.int .u8 do_), (.int .i64 i_), (.int .u64 g_), (.int .u64 q_), (.int .i64 re_), (.int .u64 ra_), (.int .u64 rb_), (.string rs_), (.bool dr_)].toArray 110 (0, 0))]) (by kernel_rfl) hs82 ?_
      refine any_val (v := (.pointer (some ⟨vb, 0, none⟩))) (v' := (.pointer (some ⟨vb, 0, none⟩))) 0 (by kernel_rfl) (fun _ => by kernel_rfl) rfl hs82 ?_
      refine any_val (v := (.pointer (some ⟨rb, 0, none⟩))) (v' := (.pointer (some ⟨rb, 0, none⟩))) 1 (by kernel_rfl) (fun _ => by kernel_rfl) rfl hs82 ?_
      refine any_val (v := (.pointer (some ⟨rb, 0, none⟩))) (v' := (.pointer (some ⟨rb, 0, none⟩))) 2 (by kernel_rfl) (fun _ => by kernel_rfl) rfl hs82 ?_
      refine any_val (v := (.pointer (some ⟨rb, 1, none⟩))) (v' := (.pointer (some ⟨rb, 1, none⟩))) 3 (by kernel_rfl) (fun _ => by kernel_rfl) rfl hs82 ?_
      refine any_R 4 (by kernel_rfl) (fun _ hS_ => runs_load (ad := ⟨rb, 1, none⟩) (v := (.slice la69 r35.2.length lc70)) (by kernel_rfl) (hS_.cellAt 0 rfl rfl)) hs82 ?_
      refine any_val (v := (.int .i64 p43)) (v' := (.int .i64 p43)) 5 (by kernel_rfl) (fun _ => by kernel_rfl) rfl hs82 ?_
      obtain ⟨h84, hm⟩ := need_some hm
      have hk83 := lt_toNat h84
      refine any_R 6 (by kernel_rfl) (fun _ hS_ => runs_index (a := la69) (n := r35.2.length) (z := p43) (size := 2) p43.toNat (nat_of h84.1) hk83 (kWr.addr (St.kcells kWr hs76 2 rfl) hk83) (by kernel_rfl)) hs82 ?_
      refine any_val (v := (.pointer (some (adr la69 (p43.toNat * 2))))) (v' := (.pointer (some (adr la69 (p43.toNat * 2))))) 7 (by kernel_rfl) (fun _ => by kernel_rfl) rfl hs82 ?_
      refine any_R 8 (by kernel_rfl) (fun _ hS_ => runs_load (ad := ((adr la69 (p43.toNat * 2)).add 0)) (v := (.int .i64 ((r35.2.getD p43.toNat (0, 0)).1))) (by kernel_rfl) (kWr.at (St.kcells kWr hS_ 2 rfl) hk83 (0, 0) 0 rfl)) hs82 ?_
      refine any_val (v := (.pointer (some ⟨rb, 0, none⟩))) (v' := (.pointer (some ⟨rb, 0, none⟩))) 9 (by kernel_rfl) (fun _ => by kernel_rfl) rfl hs82 ?_
      refine any_val (v := (.pointer (some ⟨rb, 0, none⟩))) (v' := (.pointer (some ⟨rb, 0, none⟩))) 10 (by kernel_rfl) (fun _ => by kernel_rfl) rfl hs82 ?_
      refine any_val (v := (.pointer (some ⟨rb, 1, none⟩))) (v' := (.pointer (some ⟨rb, 1, none⟩))) 11 (by kernel_rfl) (fun _ => by kernel_rfl) rfl hs82 ?_
      refine any_R 12 (by kernel_rfl) (fun _ hS_ => runs_load (ad := ⟨rb, 1, none⟩) (v := (.slice la69 r35.2.length lc70)) (by kernel_rfl) (hS_.cellAt 0 rfl rfl)) hs82 ?_
      refine any_val (v := (.int .i64 p43)) (v' := (.int .i64 p43)) 13 (by kernel_rfl) (fun _ => by kernel_rfl) rfl hs82 ?_
      obtain ⟨h86, hm⟩ := need_some hm
      have hk85 := lt_toNat h86
      refine any_R 14 (by kernel_rfl) (fun _ hS_ => runs_index (a := la69) (n := r35.2.length) (z := p43) (size := 2) p43.toNat (nat_of h86.1) hk85 (kWr.addr (St.kcells kWr hs76 2 rfl) hk85) (by kernel_rfl)) hs82 ?_
      refine any_val (v := (.pointer (some ((adr la69 (p43.toNat * 2)).add 1)))) (v' := (.pointer (some ((adr la69 (p43.toNat * 2)).add 1)))) 15 (by kernel_rfl) (fun _ => by kernel_rfl) rfl hs82 ?_
      refine any_R 16 (by kernel_rfl) (fun _ hS_ => runs_load (ad := ((adr la69 (p43.toNat * 2)).add 1)) (v := (.int .u64 ((r35.2.getD p43.toNat (0, 0)).2))) (by kernel_rfl) (kWr.at (St.kcells kWr hS_ 2 rfl) hk85 (0, 0) 1 rfl)) hs82 ?_
      refine any_step 17 (by kernel_rfl) (by kernel_rfl) ?_
      obtain ⟨r87, h88, hm⟩ := bind_some hm
      replace h88 := some_inj h88
      have hs91 := St.f3 hs76
      refine ops_call1 hs91 (by kernel_rfl) (put_spec (p := (.pointer (some ⟨vb, 0, none⟩))) (img := img) (l := l42) (at_ := (r35.2.getD p43.toNat (0, 0)).1) (x_ := (r35.2.getD p43.toNat (0, 0)).2) B _) ?_
      rintro _ _ w92 ⟨hv89, hH90⟩ hs93
      rw [h88] at hv89
      try rw [h88] at hH90
      subst hv89 hH90
      have hs94 := St.ap1 hs93
      have hs95 := St.f5 hs94
      have hs96 := St.f5 hs95
      have hs97 := St.f5 hs96
      have hs98 := St.f5 hs97
      have hs99 := St.f5 hs98
      have hs100 := St.tk5 hs99
      refine ops_done (by kernel_rfl) ⟨hs100, ?_⟩
      refine any_done (by kernel_rfl) ?_
      have hs101 := St.f5 hs94
      have hs102 := St.f5 hs101
      have hs103 := St.f2 hs102
      have hs104 := St.f5 hs103
      have hs105 := St.f5 hs104
      have hs106 := St.f5 hs105
      have hs107 : St B w l0 w92 [refA (ptr rb) img r35.2, viewA (ptr vb) img r87.2, kWr.row a20 c21 m, blk b4 (.cells [(.int .u8 do_), (.int .i64 i_), (.int .u64 g_), (.int .u64 q_), (.int .i64 re_), (.int .u64 ra_), (.int .u64 rb_), (.string rs_), (.bool dr_)].toArray 110 (0, 0))] := ref_close (l := r35.2) (ia := ia67) (ic := ic68) (la := la69) (lc := lc70) (many := mn71) hok73 hs106
      refine normal_block ?_
      refine hK66 _ _ ?_
      clear hK66
      refine W.region ?_
      refine ops_run 1 (by kernel_rfl) ?_
      obtain ⟨h108, hm⟩ := need_some hm
      refine ops_val (v := .int .i64 (IntKind.i64.wrap (p43 + 1))) (v' := .int .i64 (p43 + 1)) (by kernel_rfl) (congrArg (Value.int .i64) (wrap_i64 h108.1 h108.2)) ?_
      refine ops_run 1 (by kernel_rfl) ?_
      refine ops_done (by kernel_rfl) ?_
      have hs109 := St.f3 hs107
      have hs110 := St.f3 hs109
      have hs111 := St.f2 hs110
      have hs112 := St.f3 hs111
      refine loopAt_next ?_
      exact ih45 (r87.2, (p43 + 1)) _ _ ⟨slots_intro _ (by kernel_rfl), hs112⟩ hm
    ·
      have h65p : ¬ (p43 < (r35.2.length : Int)) := of_decide_eq_false h65
      replace hm := ite_no hm h65p
      refine W.exit (exit_seq (exit_seq (exit_here ?_)))
      obtain rfl := some_inj hm
      have hs113 := St.f1 hs64
      have hs114 := St.tk2 hs113
      refine ret_ofN (.tuple #[]) (by kernel_rfl) ⟨_, ⟨rfl, rfl⟩, hs114⟩
  ·
    have h40p : ¬ (r35.1 = 0) := of_decide_eq_false (bnot_true h40)
    replace hm := ite_no hm h40p
    refine W.seq fun K115 hK115 => ?_
    obtain ⟨⟨_, ia116, ic117, la118, lc119, mn120⟩, ⟨ex121, hok122⟩, hs123⟩ := St.open hs39
    have hs124 : St B w l0 w37 [blk rb (.cells [(.slice ia116 img.length ic117), (.slice la118 r35.2.length lc119), (.bool mn120)].toArray 71 (0, 0)), kU64.row ia116 ic117 img, kWr.row la118 lc119 r35.2, kWr.row a20 c21 m, blk b4 (.cells [(.int .u8 do_), (.int .i64 i_), (.int .u64 g_), (.int .u64 q_), (.int .i64 re_), (.int .u64 ra_), (.int .u64 rb_), (.string rs_), (.bool dr_)].toArray 110 (0, 0)), viewA (ptr vb) img l] := by cases ex121; exact hs123
    have := hok122.many
    refine W.region ?_
    refine ops_run 4 (by kernel_rfl) ?_
    refine ops_store (off := 1) (cs := [(.slice ia116 img.length ic117), (.slice la118 r35.2.length lc119), (.bool mn120)]) (vs := [(.slice a20 m.length c21)]) hs124 (by kernel_rfl) (by simp) rfl (fun w125 hs126 => ?_)
    have hs127 : St B w l0 w125 [blk rb (.cells [(.slice ia116 img.length ic117), (.slice a20 m.length c21), (.bool mn120)].toArray 71 (0, 0)), kU64.row ia116 ic117 img, kWr.row la118 lc119 r35.2, kWr.row a20 c21 m, blk b4 (.cells [(.int .u8 do_), (.int .i64 i_), (.int .u64 g_), (.int .u64 q_), (.int .i64 re_), (.int .u64 ra_), (.int .u64 rb_), (.string rs_), (.bool dr_)].toArray 110 (0, 0)), viewA (ptr vb) img l] := hs126
    refine ops_done (by kernel_rfl) ?_
    have hs128 := St.f5 hs127
    have hs129 := St.f5 hs128
    have hs130 := St.f4 hs129
    have hs131 := St.f5 hs130
    have hs132 := St.f5 hs131
    have hs133 := St.f5 hs132
    have hs134 : St B w l0 w125 [refA (ptr rb) img m, kWr.row la118 lc119 r35.2, blk b4 (.cells [(.int .u8 do_), (.int .i64 i_), (.int .u64 g_), (.int .u64 q_), (.int .i64 re_), (.int .u64 ra_), (.int .u64 rb_), (.string rs_), (.bool dr_)].toArray 110 (0, 0)), viewA (ptr vb) img l] := ref_close (l := m) (ia := ia116) (ic := ic117) (la := a20) (lc := c21) (many := mn120) hok13 hs133
    refine hK115 _ _ ?_
    clear hK115
    refine W.ret (ret_seq ?_)
    obtain rfl := some_inj hm
    have hs135 := St.f3 hs134
    have hs136 := St.tk2 hs135
    refine ret_of (.tuple #[]) (by kernel_rfl) ⟨_, ⟨rfl, rfl⟩, hs136⟩

end Go.Proofs.YthimamnblklkbaaDoor

/- What the code computes, by a program. -/
namespace Go.Proofs.YthimamnblklkbaaDoor
open Go Go.RowKit
set_option linter.unusedSimpArgs false
set_option linter.unusedVariables false

def image_J1 (gw : Int) (gi : Int) (gb : Int) (cut_ : Int) (q11 : List Int) : Option (List Int) :=
  need (-9223372036854775808 ≤ cut_ ∧ cut_ ≤ 9223372036854775807) <|
need (-9223372036854775808 ≤ ((((fmtW gw gi gb).length) : Int) - (mn cut_ (((fmtW gw gi gb).length) : Int))) ∧ ((((fmtW gw gi gb).length) : Int) - (mn cut_ (((fmtW gw gi gb).length) : Int))) ≤ 9223372036854775807) <|
need (0 ≤ ((((fmtW gw gi gb).length) : Int) - (mn cut_ (((fmtW gw gi gb).length) : Int))) ∧ ((((fmtW gw gi gb).length) : Int) - (mn cut_ (((fmtW gw gi gb).length) : Int))) ≤ (((fmtW gw gi gb).length) : Int)) <|
need ((fmtW gw gi gb).length = q11.length) <|
some (q11.take (((((fmtW gw gi gb).length) : Int) - (mn cut_ (((fmtW gw gi gb).length) : Int))).toNat))

def image_B0 (gw : Int) (gi : Int) (gb : Int) (ts : List TTn) (cut_ : Int) (k25 : ((List Int) × Int) → Option (List Int)) (q23 : List Int) (p24 : Int) : Option (List Int) :=
  if p24 < (ts.length : Int) then (if (((fmtW gw gi gb).length) : Int) > 0 then (need (0 ≤ p24 ∧ p24 < (ts.length : Int)) <|
need (-9223372036854775808 ≤ ((ts.getD p24.toNat dTn).c0) ∧ ((ts.getD p24.toNat dTn).c0) ≤ 9223372036854775807) <|
need (¬ ((((fmtW gw gi gb).length) : Int) = 0)) <|
need (0 ≤ p24 ∧ p24 < (ts.length : Int)) <|
need (0 ≤ (((ts.getD p24.toNat dTn).c0).tmod (((fmtW gw gi gb).length) : Int)) ∧ (((ts.getD p24.toNat dTn).c0).tmod (((fmtW gw gi gb).length) : Int)) < (((fmtW gw gi gb).length) : Int)) <|
need ((((ts.getD p24.toNat dTn).c0).tmod (((fmtW gw gi gb).length) : Int)).toNat < q23.length) <|
need (-9223372036854775808 ≤ (p24 + 1) ∧ (p24 + 1) ≤ 9223372036854775807) <|
k25 ((q23.set ((((ts.getD p24.toNat dTn).c0).tmod (((fmtW gw gi gb).length) : Int)).toNat) ((ts.getD p24.toNat dTn).c1)), (p24 + 1))) else (image_J1 gw gi gb cut_ q23)) else (image_J1 gw gi gb cut_ q23)

def image_M (gw : Int) (gi : Int) (gb : Int) (ts : List TTn) (cut_ : Int) : Option (List Int) :=
  iter (fun k_ s_ => image_B0 gw gi gb ts cut_ k_ s_.1 s_.2) FUEL ((fmtW gw gi gb), 0)

set_option maxRecDepth 20000 in
set_option maxHeartbeats 2000000 in
set_option linter.unusedVariables false in
theorem image_walk {gw : Int} {gi : Int} {gb : Int} {ts : List TTn} {cut_ : Int} {ta : Option Addr} {tc : Nat} {r : List Int} (B : Nat) (w : World) (ht : CellsAt ta (kTn.cells ts) w) (hm : image_M gw gi gb ts cut_ = some r) : Spec Tryd.prog 38 #[(.agg #[(.int .i64 gw), (.int .i64 gi), (.int .i64 gb)]), (.slice ta ts.length tc), (.int .u16 cut_)] B w [] (fun v H' => ∃ a' c', v = .slice a' r.length c' ∧ H' = [kU64.row a' c' r]) := by
  refine spec_Q Tryd.func38 rfl fun hs => ?_
  unfold image_M at hm
  refine W.seq fun K1 hK1 => ?_
  refine W.region ?_
  refine ops_new (fun b => .pointer (some ⟨b, 0, none⟩)) (.cells [(.int .i64 gw), (.int .i64 gi), (.int .i64 gb)].toArray 63 (0, 0)) hs (by kernel_rfl) (fun b4 w2 hs3 => ?_)
  refine ops_run 1 (by kernel_rfl) ?_
  refine ops_done (by kernel_rfl) ?_
  refine hK1 _ _ ?_
  clear hK1
  refine W.seq fun K5 hK5 => ?_
  refine W.region ?_
  refine ops_R (runs_loadAgg (ad := ⟨b4, 0, none⟩) (cs := [(.int .i64 gw), (.int .i64 gi), (.int .i64 gb)]) (by kernel_rfl) (cells_sub (hs3.heapAt 0 rfl) rfl)) ?_
  refine ops_call0 hs3 (by kernel_rfl) (format_spec (gw := gw) (gi := gi) (gb := gb) B _) ?_
  rintro _ _ w8 ⟨a6, c7, rfl, rfl⟩ hs9
  have hs10 := St.ap1 hs9
  refine ops_run 1 (by kernel_rfl) ?_
  refine ops_done (by kernel_rfl) ?_
  refine hK5 _ _ ?_
  clear hK5
  refine W.seq_join (fun s_ w_ => ∃ (q11 : List Int), (∃ us, s_ = slots 48 [(2, (.int .u16 cut_)), (7, (.slice a6 ((fmtW gw gi gb).length) c7))] us) ∧ St B w [] w_ [kU64.row a6 c7 q11, blk b4 (.cells [(.int .i64 gw), (.int .i64 gi), (.int .i64 gb)].toArray 63 (0, 0))] ∧ image_J1 gw gi gb cut_ q11 = some r) ?_ ?_
  ·
    rintro _ w12 ⟨q11, ⟨us, rfl⟩, hs13, hm⟩
    unfold image_J1 at hm
    refine W.seq fun K14 hK14 => ?_
    refine W.region ?_
    refine ops_run 4 (by kernel_rfl) ?_
    obtain ⟨h15, hm⟩ := need_some hm
    refine ops_val (v := .int .i64 (IntKind.i64.wrap cut_)) (v' := .int .i64 cut_) (by kernel_rfl) (congrArg (Value.int .i64) (wrap_i64 h15.1 h15.2)) ?_
    refine ops_run 3 (by kernel_rfl) ?_
    obtain ⟨h16, hm⟩ := need_some hm
    refine ops_val (v := .int .i64 (IntKind.i64.wrap ((((fmtW gw gi gb).length) : Int) - (mn cut_ (((fmtW gw gi gb).length) : Int))))) (v' := .int .i64 ((((fmtW gw gi gb).length) : Int) - (mn cut_ (((fmtW gw gi gb).length) : Int)))) (by kernel_rfl) (congrArg (Value.int .i64) (wrap_i64 h16.1 h16.2)) ?_
    obtain ⟨h17, hm⟩ := need_some hm
    have hc18 := St.kcap kU64 hs13 0 rfl
    obtain ⟨h19, hm⟩ := need_some hm
    rw [← h19] at hc18
    refine ops_R (runs_prefixL (a := a6) (n := (fmtW gw gi gb).length) (c := c7) (z := ((((fmtW gw gi gb).length) : Int) - (mn cut_ (((fmtW gw gi gb).length) : Int)))) (size := 1) (((((fmtW gw gi gb).length) : Int) - (mn cut_ (((fmtW gw gi gb).length) : Int))).toNat) (q11.take (((((fmtW gw gi gb).length) : Int) - (mn cut_ (((fmtW gw gi gb).length) : Int))).toNat)).length (le_take_len (by omega)) (nat_of h17.1) (le_toNat h17) hc18 (by kernel_rfl)) ?_
    refine ops_run 1 (by kernel_rfl) ?_
    refine ops_done (by kernel_rfl) ?_
    refine hK14 _ _ ?_
    clear hK14
    refine W.ret ?_
    have hs20 := St.kprefix kU64 (((((fmtW gw gi gb).length) : Int) - (mn cut_ (((fmtW gw gi gb).length) : Int))).toNat) hs13
    obtain rfl := some_inj hm
    have hs21 := St.tk1 hs20
    refine ret_of (.slice a6 ((q11.take (((((fmtW gw gi gb).length) : Int) - (mn cut_ (((fmtW gw gi gb).length) : Int))).toNat)).length) c7) (by kernel_rfl) ⟨_, ⟨a6, c7, rfl, rfl⟩, hs21⟩
  ·
    refine W.seq fun K22 hK22 => ?_
    refine W.region ?_
    refine ops_run 1 (by kernel_rfl) ?_
    refine ops_done (by kernel_rfl) ?_
    refine hK22 _ _ ?_
    clear hK22
    refine W.block ?_
    refine W.loop_iter (G := (List Int) × Int) (σ := (List Int) × Int) (fun | (q23, p24) => (q23, p24)) (fun | (q23, p24), s_, w_ => (∃ us, s_ = slots 48 [(1, (.slice ta ts.length tc)), (2, (.int .u16 cut_)), (7, (.slice a6 ((fmtW gw gi gb).length) c7)), (8, (.int .i64 p24))] us) ∧ St B w [] w_ [kU64.row a6 c7 q23, blk b4 (.cells [(.int .i64 gw), (.int .i64 gi), (.int .i64 gb)].toArray 63 (0, 0))]) ((fmtW gw gi gb), 0) ⟨slots_intro _ (by kernel_rfl), hs10⟩ hm ?_
    rintro k25 ih26 ⟨q23, p24⟩ _ w27 ⟨⟨us, rfl⟩, hs28⟩ hm
    replace hm : image_B0 gw gi gb ts cut_ k25 q23 p24 = some r := hm
    unfold image_B0 at hm
    refine W.seq fun K29 hK29 => ?_
    refine W.seq fun K30 hK30 => ?_
    refine W.region ?_
    refine ops_run 5 (by kernel_rfl) ?_
    rcases Bool.eq_false_or_eq_true (decide (p24 < (ts.length : Int))) with h31 | h31
    ·
      have h31p : p24 < (ts.length : Int) := of_decide_eq_true h31
      replace hm := ite_yes hm h31p
      refine ops_set 15 (v := .bool true) (eq_bool_of (by kernel_rfl) h31) ?_
      refine ops_set 14 (v := .bool true) (eq_bool_of (by kernel_rfl) h31) ?_
      refine ops_run 4 (by kernel_rfl) ?_
      refine ops_done (by kernel_rfl) ?_
      refine hK30 _ _ ?_
      clear hK30
      refine W.cond (decide ((((fmtW gw gi gb).length) : Int) > 0)) (by kernel_rfl) (fun h32 => ?_) (fun h32 => ?_)
      ·
        have h32p : (((fmtW gw gi gb).length) : Int) > 0 := of_decide_eq_true h32
        replace hm := ite_yes hm h32p
        refine W.skip ?_
        refine hK29 _ _ ?_
        clear hK29
        refine W.seq fun K33 hK33 => ?_
        refine W.block ?_
        have hs34 := hs28.drew
        have hs35 := St.f1 hs34
        have hs36 := St.tk1 hs35
        refine W.regionD [(0, 0), (0, 0), (0, 0), (6, 6), (8, 8), (16, 16), (32, 32), (0, 0), (128, 128), (320, 320), (0, 0), (0, 0), (3072, 3072), (4096, 4096), (8192, 8192), (32767, 513), (65535, 49152)] (fun w_ => St B w [] w_ [blk b4 (.cells [(.int .i64 gw), (.int .i64 gi), (.int .i64 gb)].toArray 63 (0, 0))]) (by kernel_rfl) hs36 ?_
        refine any_val (v := (.slice a6 ((fmtW gw gi gb).length) c7)) (v' := (.slice a6 ((fmtW gw gi gb).length) c7)) 0 (by kernel_rfl) (fun _ => by kernel_rfl) rfl hs36 ?_
        refine any_val (v := (.slice ta ts.length tc)) (v' := (.slice ta ts.length tc)) 1 (by kernel_rfl) (fun _ => by kernel_rfl) rfl hs36 ?_
        refine any_val (v := (.int .i64 p24)) (v' := (.int .i64 p24)) 2 (by kernel_rfl) (fun _ => by kernel_rfl) rfl hs36 ?_
        obtain ⟨h38, hm⟩ := need_some hm
        have hk37 := lt_toNat h38
        refine any_R 3 (by kernel_rfl) (fun _ hS_ => runs_index (a := ta) (n := ts.length) (z := p24) (size := 2) p24.toNat (nat_of h38.1) hk37 (kTn.addr (hs34.oldCells ht) hk37) (by kernel_rfl)) hs36 ?_
        refine any_val (v := (.pointer (some (adr ta (p24.toNat * 2))))) (v' := (.pointer (some (adr ta (p24.toNat * 2))))) 4 (by kernel_rfl) (fun _ => by kernel_rfl) rfl hs36 ?_
        refine any_R 5 (by kernel_rfl) (fun _ hS_ => runs_load (ad := ((adr ta (p24.toNat * 2)).add 0)) (v := (.int .u16 ((ts.getD p24.toNat dTn).c0))) (by kernel_rfl) (kTn.at (hS_.oldCells ht) hk37 dTn 0 rfl)) hs36 ?_
        obtain ⟨h39, hm⟩ := need_some hm
        refine any_val (v := .int .i64 (IntKind.i64.wrap ((ts.getD p24.toNat dTn).c0))) (v' := .int .i64 ((ts.getD p24.toNat dTn).c0)) 6 (by kernel_rfl) (fun _ => by kernel_rfl) (congrArg (Value.int .i64) (wrap_i64 h39.1 h39.2)) hs36 ?_
        refine any_val (v := (.slice a6 ((fmtW gw gi gb).length) c7)) (v' := (.slice a6 ((fmtW gw gi gb).length) c7)) 7 (by kernel_rfl) (fun _ => by kernel_rfl) rfl hs36 ?_
        refine any_val (v := (.int .i64 (((fmtW gw gi gb).length) : Int))) (v' := (.int .i64 (((fmtW gw gi gb).length) : Int))) 8 (by kernel_rfl) (fun _ => by kernel_rfl) rfl hs36 ?_
        obtain ⟨h40, hm⟩ := need_some hm
        refine any_R (v := .int .i64 (((ts.getD p24.toNat dTn).c0).tmod (((fmtW gw gi gb).length) : Int))) 9 (by kernel_rfl) (fun _ hS_ => runs_rem (k := .i64) (a := (ts.getD p24.toNat dTn).c0) (b := (((fmtW gw gi gb).length) : Int)) (by kernel_rfl) h40 rfl) hs36 ?_
        refine any_val (v := (.slice ta ts.length tc)) (v' := (.slice ta ts.length tc)) 10 (by kernel_rfl) (fun _ => by kernel_rfl) rfl hs36 ?_
        refine any_val (v := (.int .i64 p24)) (v' := (.int .i64 p24)) 11 (by kernel_rfl) (fun _ => by kernel_rfl) rfl hs36 ?_
        obtain ⟨h42, hm⟩ := need_some hm
        have hk41 := lt_toNat h42
        refine any_R 12 (by kernel_rfl) (fun _ hS_ => runs_index (a := ta) (n := ts.length) (z := p24) (size := 2) p24.toNat (nat_of h42.1) hk41 (kTn.addr (hs34.oldCells ht) hk41) (by kernel_rfl)) hs36 ?_
        refine any_val (v := (.pointer (some ((adr ta (p24.toNat * 2)).add 1)))) (v' := (.pointer (some ((adr ta (p24.toNat * 2)).add 1)))) 13 (by kernel_rfl) (fun _ => by kernel_rfl) rfl hs36 ?_
        refine any_R 14 (by kernel_rfl) (fun _ hS_ => runs_load (ad := ((adr ta (p24.toNat * 2)).add 1)) (v := (.int .u64 ((ts.getD p24.toNat dTn).c1))) (by kernel_rfl) (kTn.at (hS_.oldCells ht) hk41 dTn 1 rfl)) hs36 ?_
        obtain ⟨h44, hm⟩ := need_some hm
        have hk43 := lt_toNat h44
        obtain ⟨h46, hm⟩ := need_some hm
        have hk45 := h46
        refine any_R 15 (by kernel_rfl) (fun _ hS_ => runs_index (a := a6) (n := (fmtW gw gi gb).length) (z := (((ts.getD p24.toNat dTn).c0).tmod (((fmtW gw gi gb).length) : Int))) (size := 1) ((((ts.getD p24.toNat dTn).c0).tmod (((fmtW gw gi gb).length) : Int)).toNat) (nat_of h44.1) hk43 (kU64.addr (St.kcells kU64 hs34 0 rfl) hk45) (by kernel_rfl)) hs36 ?_
        refine any_step 16 (by kernel_rfl) (by kernel_rfl) ?_
        refine ops_storeK kU64 (j := 0) (vs := [(.int .u64 ((ts.getD p24.toNat dTn).c1))]) 0 ((ts.getD p24.toNat dTn).c1) hs34 hk45 (Nat.le_of_ble_eq_true rfl) (by simp) rfl rfl (by kernel_rfl) (fun w47 hs48 => ?_)
        have hs50 := St.f1 hs48
        have hs51 := St.tk1 hs50
        refine ops_done (by kernel_rfl) ⟨hs51, ?_⟩
        refine any_done (by kernel_rfl) ?_
        refine normal_block ?_
        refine hK33 _ _ ?_
        clear hK33
        refine W.region ?_
        refine ops_run 1 (by kernel_rfl) ?_
        obtain ⟨h52, hm⟩ := need_some hm
        refine ops_val (v := .int .i64 (IntKind.i64.wrap (p24 + 1))) (v' := .int .i64 (p24 + 1)) (by kernel_rfl) (congrArg (Value.int .i64) (wrap_i64 h52.1 h52.2)) ?_
        refine ops_run 1 (by kernel_rfl) ?_
        refine ops_done (by kernel_rfl) ?_
        refine loopAt_next ?_
        exact ih26 ((q23.set ((((ts.getD p24.toNat dTn).c0).tmod (((fmtW gw gi gb).length) : Int)).toNat) ((ts.getD p24.toNat dTn).c1)), (p24 + 1)) _ _ ⟨slots_intro _ (by kernel_rfl), hs48⟩ hm
      ·
        have h32p : ¬ ((((fmtW gw gi gb).length) : Int) > 0) := of_decide_eq_false h32
        replace hm := ite_no hm h32p
        refine W.exit (exit_seq (exit_seq (exit_here ?_)))
        exact ⟨q23, slots_intro _ (by kernel_rfl), hs28, hm⟩
    ·
      have h31p : ¬ (p24 < (ts.length : Int)) := of_decide_eq_false h31
      replace hm := ite_no hm h31p
      refine ops_set 15 (v := .bool false) (eq_bool_of (by kernel_rfl) h31) ?_
      refine ops_set 14 (v := .bool false) (eq_bool_of (by kernel_rfl) h31) ?_
      refine ops_run 4 (by kernel_rfl) ?_
      refine ops_done (by kernel_rfl) ?_
      refine hK30 _ _ ?_
      clear hK30
      refine W.cond_false false (by kernel_rfl) rfl ?_
      refine W.exit (exit_seq (exit_seq (exit_here ?_)))
      exact ⟨q23, slots_intro _ (by kernel_rfl), hs28, hm⟩

end Go.Proofs.YthimamnblklkbaaDoor

/- What the code computes, by a program. -/
namespace Go.Proofs.YthimamnblklkbaaDoor
open Go Go.RowKit
set_option linter.unusedSimpArgs false
set_option linter.unusedVariables false

def great11_B0 (ss : List TSt11) (k9 : Int → Option (Bool)) (p8 : Int) : Option (Bool) :=
  if p8 < (ss.length : Int) then (need (0 ≤ p8 ∧ p8 < (ss.length : Int)) <|
if ((ss.getD p8.toNat dSt11).c7.size : Int) > 1000 then (some true) else (need (-9223372036854775808 ≤ (p8 + 1) ∧ (p8 + 1) ≤ 9223372036854775807) <|
k9 (p8 + 1))) else (some false)

def great11_M (ss : List TSt11) : Option (Bool) :=
  if (ss.length : Int) > 60 then (some true) else (iter (fun k_ s_ => great11_B0 ss k_ s_) FUEL 0)

set_option maxRecDepth 20000 in
set_option linter.unusedVariables false in
theorem great11_walk {ss : List TSt11} {sa : Option Addr} {sc : Nat} {r : Bool} (B : Nat) (w : World) (hst : CellsAt sa (kSt11.cells ss) w) (hm : great11_M ss = some r) : Spec Tryd.prog 66 #[(.slice sa ss.length sc)] B w [] (fun v H' => v = .bool r ∧ H' = []) := by
  refine spec_Q Tryd.func66 rfl fun hs => ?_
  unfold great11_M at hm
  refine W.seq fun K1 hK1 => ?_
  refine W.region ?_
  refine ops_run 1 (by kernel_rfl) ?_
  refine ops_done (by kernel_rfl) ?_
  refine hK1 _ _ ?_
  clear hK1
  refine W.seq fun K2 hK2 => ?_
  refine W.seq fun K3 hK3 => ?_
  refine W.region ?_
  refine ops_run 3 (by kernel_rfl) ?_
  refine ops_done (by kernel_rfl) ?_
  refine hK3 _ _ ?_
  clear hK3
  refine W.cond (decide ((ss.length : Int) > 60)) (by kernel_rfl) (fun h4 => ?_) (fun h4 => ?_)
  ·
    have h4p : (ss.length : Int) > 60 := of_decide_eq_true h4
    replace hm := ite_yes hm h4p
    refine W.seq fun K5 hK5 => ?_
    refine W.region ?_
    refine ops_run 1 (by kernel_rfl) ?_
    refine ops_done (by kernel_rfl) ?_
    refine hK5 _ _ ?_
    clear hK5
    refine W.ret (ret_seq ?_)
    obtain rfl := some_inj hm
    refine ret_of (.bool true) (by kernel_rfl) ⟨_, ⟨rfl, rfl⟩, hs⟩
  ·
    have h4p : ¬ ((ss.length : Int) > 60) := of_decide_eq_false h4
    replace hm := ite_no hm h4p
    refine W.skip ?_
    refine hK2 _ _ ?_
    clear hK2
    refine W.seq fun K6 hK6 => ?_
    refine W.seq fun K7 hK7 => ?_
    refine W.region ?_
    refine ops_run 1 (by kernel_rfl) ?_
    refine ops_done (by kernel_rfl) ?_
    refine hK7 _ _ ?_
    clear hK7
    refine W.block ?_
    refine W.loop_iter (G := Int) (σ := Int) (fun | p8 => p8) (fun | p8, s_, w_ => (∃ us, s_ = slots 21 [(0, (.slice sa ss.length sc)), (3, (.int .i64 p8))] us) ∧ St B w [] w_ []) 0 ⟨slots_intro _ (by kernel_rfl), hs⟩ hm ?_
    rintro k9 ih10 p8 _ w11 ⟨⟨us, rfl⟩, hs12⟩ hm
    replace hm : great11_B0 ss k9 p8 = some r := hm
    unfold great11_B0 at hm
    refine W.seq fun K13 hK13 => ?_
    refine W.seq fun K14 hK14 => ?_
    refine W.region ?_
    refine ops_run 4 (by kernel_rfl) ?_
    refine ops_done (by kernel_rfl) ?_
    refine hK14 _ _ ?_
    clear hK14
    refine W.cond (decide (p8 < (ss.length : Int))) (by kernel_rfl) (fun h15 => ?_) (fun h15 => ?_)
    ·
      have h15p : p8 < (ss.length : Int) := of_decide_eq_true h15
      replace hm := ite_yes hm h15p
      refine W.skip ?_
      refine hK13 _ _ ?_
      clear hK13
      refine W.seq fun K16 hK16 => ?_
      refine W.block ?_
      refine W.seq fun K17 hK17 => ?_
      refine W.region ?_
      refine ops_run 2 (by kernel_rfl) ?_
      obtain ⟨h19, hm⟩ := need_some hm
      have hk18 := lt_toNat h19
      refine ops_R (runs_index (a := sa) (n := ss.length) (z := p8) (size := 9) p8.toNat (nat_of h19.1) hk18 (kSt11.addr (hs12.oldCells hst) hk18) (by kernel_rfl)) ?_
      refine ops_run 2 (by kernel_rfl) ?_
      refine ops_R (runs_load (ad := ((adr sa (p8.toNat * 9)).add 7)) (v := (.string ((ss.getD p8.toNat dSt11).c7))) (by kernel_rfl) (kSt11.at (hs12.oldCells hst) hk18 dSt11 7 rfl)) ?_
      refine ops_run 2 (by kernel_rfl) ?_
      refine ops_done (by kernel_rfl) ?_
      refine hK17 _ _ ?_
      clear hK17
      refine W.cond (decide (((ss.getD p8.toNat dSt11).c7.size : Int) > 1000)) (by kernel_rfl) (fun h20 => ?_) (fun h20 => ?_)
      ·
        have h20p : ((ss.getD p8.toNat dSt11).c7.size : Int) > 1000 := of_decide_eq_true h20
        replace hm := ite_yes hm h20p
        refine W.seq fun K21 hK21 => ?_
        refine W.region ?_
        refine ops_run 1 (by kernel_rfl) ?_
        refine ops_done (by kernel_rfl) ?_
        refine hK21 _ _ ?_
        clear hK21
        refine W.ret (ret_block (ret_seq (ret_seq (ret_block (ret_seq ?_)))))
        obtain rfl := some_inj hm
        refine ret_of (.bool true) (by kernel_rfl) ⟨_, ⟨rfl, rfl⟩, hs12⟩
      ·
        have h20p : ¬ (((ss.getD p8.toNat dSt11).c7.size : Int) > 1000) := of_decide_eq_false h20
        replace hm := ite_no hm h20p
        refine W.skip ?_
        refine normal_block ?_
        refine hK16 _ _ ?_
        clear hK16
        refine W.region ?_
        refine ops_run 1 (by kernel_rfl) ?_
        obtain ⟨h22, hm⟩ := need_some hm
        refine ops_val (v := .int .i64 (IntKind.i64.wrap (p8 + 1))) (v' := .int .i64 (p8 + 1)) (by kernel_rfl) (congrArg (Value.int .i64) (wrap_i64 h22.1 h22.2)) ?_
        refine ops_run 1 (by kernel_rfl) ?_
        refine ops_done (by kernel_rfl) ?_
        refine loopAt_next ?_
        exact ih10 (p8 + 1) _ _ ⟨slots_intro _ (by kernel_rfl), hs12⟩ hm
    ·
      have h15p : ¬ (p8 < (ss.length : Int)) := of_decide_eq_false h15
      replace hm := ite_no hm h15p
      refine W.exit (exit_seq (exit_seq (exit_here ?_)))
      refine hK6 _ _ ?_
      clear hK6
      refine W.seq fun K23 hK23 => ?_
      refine W.region ?_
      refine ops_run 1 (by kernel_rfl) ?_
      refine ops_done (by kernel_rfl) ?_
      refine hK23 _ _ ?_
      clear hK23
      refine W.ret ?_
      obtain rfl := some_inj hm
      refine ret_of (.bool false) (by kernel_rfl) ⟨_, ⟨rfl, rfl⟩, hs12⟩

end Go.Proofs.YthimamnblklkbaaDoor
