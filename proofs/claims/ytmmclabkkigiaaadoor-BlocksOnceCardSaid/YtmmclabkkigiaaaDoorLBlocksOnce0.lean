/- Texts, one behind the other: ALbOn, PLbOn. -/
import Derived.Test.YtmmclabkkigiaaaDoorQBN5
set_option linter.unusedVariables false
set_option linter.unusedSimpArgs false
set_option linter.unusedVariables false
set_option maxRecDepth 20000
set_option maxHeartbeats 4000000
namespace Go.Proofs.YtmmclabkkigiaaaDoor
open Go Go.RowKit
set_option linter.unusedSimpArgs false
set_option linter.unusedVariables false

def blocksonce_J3 (m_ : Int) (k35 : ((List Int) × Int) → Option (Bool)) (q33 : List Int) (p34 : Int) (l90 : List (Int × Int)) (r96 : List Int) (q110 : List Bool) : Option (Bool) :=
 (afree_M q33 l90 (2 + 0 % 20) (2 + m_ % 60) (placeOf 6 1 (2 + 0 % 20) (2 + m_ % 60) 0) (placeOf 7 1 (2 + 0 % 20) (2 + m_ % 60) 0)).bind fun r114 =>
need (-9223372036854775808 ≤ (r114.2 + (r96.length : Int)) ∧ (r114.2 + (r96.length : Int)) ≤ 9223372036854775807) <|
need (-9223372036854775808 ≤ ((2 + m_ % 60) - 1) ∧ ((2 + m_ % 60) - 1) ≤ 9223372036854775807) <|
if (r114.2 + (r96.length : Int)) = ((2 + m_ % 60) - 1) then ((some (wordsOf 1 (2 + 0 % 20) (2 + m_ % 60))).bind fun r129 =>
if (((vflat q33 l90).length) : Int) = r129 then (need (-9223372036854775808 ≤ (p34 + 1) ∧ (p34 + 1) ≤ 9223372036854775807) <|
k35 ((vflat q33 l90), (p34 + 1))) else (some false)) else (some false)

def blocksonce_B3 (m_ : Int) (k35 : ((List Int) × Int) → Option (Bool)) (q33 : List Int) (p34 : Int) (l90 : List (Int × Int)) (r96 : List Int) (k147 : ((List Bool) × Int) → Option (Bool)) (q145 : List Bool) (p146 : Int) : Option (Bool) :=
 if p146 < (r96.length : Int) then (need (0 ≤ p146 ∧ p146 < (r96.length : Int)) <|
if (r96.getD p146.toNat 0) < 1 then (some false) else (need (0 ≤ p146 ∧ p146 < (r96.length : Int)) <|
if (r96.getD p146.toNat 0) ≥ (2 + m_ % 60) then (some false) else (need (0 ≤ p146 ∧ p146 < (r96.length : Int)) <|
need (0 ≤ (r96.getD p146.toNat 0) ∧ (r96.getD p146.toNat 0) < 64) <|
need (q145.length = 64) <|
if (q145.getD ((r96.getD p146.toNat 0).toNat) false) = true then (some false) else (need (0 ≤ p146 ∧ p146 < (r96.length : Int)) <|
(aused_M q33 l90 (2 + m_ % 60) (placeOf 7 1 (2 + 0 % 20) (2 + m_ % 60) 0) (r96.getD p146.toNat 0)).bind fun r188 =>
if r188 = true then (need (0 ≤ p146 ∧ p146 < (r96.length : Int)) <|
need (0 ≤ (r96.getD p146.toNat 0) ∧ (r96.getD p146.toNat 0) < 64) <|
need (q145.length = 64) <|
need (-9223372036854775808 ≤ (p146 + 1) ∧ (p146 + 1) ≤ 9223372036854775807) <|
k147 ((q145.set ((r96.getD p146.toNat 0).toNat) true), (p146 + 1))) else (some false))))) else (blocksonce_J3 m_ k35 q33 p34 l90 r96 q145)

def blocksonce_J2 (m_ : Int) (k35 : ((List Int) × Int) → Option (Bool)) (q33 : List Int) (p34 : Int) (l90 : List (Int × Int)) : Option (Bool) :=
 (bList_M q33 l90 1 (2 + 0 % 20) (2 + m_ % 60) 1).bind fun r96 =>
iter (fun k_ s_ => blocksonce_B3 m_ k35 q33 p34 l90 r96 k_ s_.1 s_.2) FUEL ((List.replicate 64 false), 0)

def blocksonce_B1 (m_ : Int) (k35 : ((List Int) × Int) → Option (Bool)) (q33 : List Int) (p34 : Int) (r79 : Int × Int) (r221 : Int × Int × List (Int × Int)) (k238 : Int → Option (Bool)) (p237 : Int) : Option (Bool) :=
 if p237 < 8 then (if r221.2.1 = 0 then (if r79.1 = 0 then (need (-9223372036854775808 ≤ ((placeOf 9 1 (2 + 0 % 20) (2 + m_ % 60) r221.1) + p237) ∧ ((placeOf 9 1 (2 + 0 % 20) (2 + m_ % 60) r221.1) + p237) ≤ 9223372036854775807) <|
if (vget q33 r221.2.2 ((placeOf 9 1 (2 + 0 % 20) (2 + m_ % 60) r221.1) + p237)) = 0 then (need (-9223372036854775808 ≤ (p237 + 1) ∧ (p237 + 1) ≤ 9223372036854775807) <|
k238 (p237 + 1)) else (some false)) else (blocksonce_J2 m_ k35 q33 p34 r221.2.2)) else (blocksonce_J2 m_ k35 q33 p34 r221.2.2)) else (blocksonce_J2 m_ k35 q33 p34 r221.2.2)

def blocksonce_J5 (m_ : Int) (k35 : ((List Int) × Int) → Option (Bool)) (q33 : List Int) (p34 : Int) (r79 : Int × Int) (r221 : Int × Int × List (Int × Int)) : Option (Bool) :=
 iter (fun k_ s_ => blocksonce_B1 m_ k35 q33 p34 r79 r221 k_ s_) FUEL 0

def blocksonce_B2 (m_ : Int) (k35 : ((List Int) × Int) → Option (Bool)) (q33 : List Int) (p34 : Int) (r502 : Int × List (Int × Int)) (k512 : Int → Option (Bool)) (p511 : Int) : Option (Bool) :=
 if p511 < 12 then ((bneed_M q33 r502.2 1 (2 + 0 % 20) (2 + m_ % 60) 1 p511).bind fun r528 =>
if r528 = 0 then (some false) else (need (-9223372036854775808 ≤ (p511 + 1) ∧ (p511 + 1) ≤ 9223372036854775807) <|
k512 (p511 + 1))) else (blocksonce_J2 m_ k35 q33 p34 r502.2)

def blocksonce_B0 (m_ : Int) (ss : List TSt13) (k35 : ((List Int) × Int) → Option (Bool)) (q33 : List Int) (p34 : Int) : Option (Bool) :=
 if p34 < (ss.length : Int) then (need (q33.length ≤ 17592186044415) <|
if (igetM q33 ([]) 1 (2 + 0 % 20) (2 + m_ % 60) 1).2 = 0 then (need ((q33.length : Int) ≤ 1000000000000) <|
if May 1 (2 + 0 % 20) (2 + m_ % 60) ∧ wordsOf 1 (2 + 0 % 20) (2 + m_ % 60) ≤ (q33.length : Int) then (need (0 ≤ p34 ∧ p34 < (ss.length : Int)) <|
(some ((mx ((ss.getD p34.toNat dSt13).c1) 0).tmod 12)).bind fun r70 =>
(bneed_M q33 ([]) 1 (2 + 0 % 20) (2 + m_ % 60) 1 r70).bind fun r73 =>
(bat_M q33 ([]) 1 (2 + 0 % 20) (2 + m_ % 60) 1 r70).bind fun r79 =>
(afree_M q33 ([]) (2 + 0 % 20) (2 + m_ % 60) (placeOf 6 1 (2 + 0 % 20) (2 + m_ % 60) 0) (placeOf 7 1 (2 + 0 % 20) (2 + m_ % 60) 0)).bind fun r85 =>
need (0 ≤ p34 ∧ p34 < (ss.length : Int)) <|
if ((ss.getD p34.toNat dSt13).c0).tmod 3 = 0 then ((bTake_M q33 ([]) 1 (2 + 0 % 20) (2 + m_ % 60) 1 r70).bind fun r221 =>
(afree_M q33 r221.2.2 (2 + 0 % 20) (2 + m_ % 60) (placeOf 6 1 (2 + 0 % 20) (2 + m_ % 60) 0) (placeOf 7 1 (2 + 0 % 20) (2 + m_ % 60) 0)).bind fun r229 =>
if ((r221.2.1 = 7) ↔ (r73 > r85.2)) then (if r221.2.1 = 0 then (if r221.2.1 = 7 then (if r229.2 = r85.2 then (if r221.2.1 = 0 then (need (-9223372036854775808 ≤ (r85.2 - r73) ∧ (r85.2 - r73) ≤ 9223372036854775807) <|
if r229.2 = (r85.2 - r73) then (if r221.1 < 1 then (some false) else (if r79.1 = 0 then ((aused_M q33 r221.2.2 (2 + m_ % 60) (placeOf 7 1 (2 + 0 % 20) (2 + m_ % 60) 0) r221.1).bind fun r272 =>
if r272 = true then (blocksonce_J5 m_ k35 q33 p34 r79 r221) else (some false)) else (if r221.1 = r79.1 then ((aused_M q33 r221.2.2 (2 + m_ % 60) (placeOf 7 1 (2 + 0 % 20) (2 + m_ % 60) 0) r221.1).bind fun r288 =>
if r288 = true then (blocksonce_J5 m_ k35 q33 p34 r79 r221) else (some false)) else (some false)))) else (some false)) else (blocksonce_J5 m_ k35 q33 p34 r79 r221)) else (some false)) else (if r221.2.1 = 0 then (need (-9223372036854775808 ≤ (r85.2 - r73) ∧ (r85.2 - r73) ≤ 9223372036854775807) <|
if r229.2 = (r85.2 - r73) then (if r221.1 < 1 then (some false) else (if r79.1 = 0 then ((aused_M q33 r221.2.2 (2 + m_ % 60) (placeOf 7 1 (2 + 0 % 20) (2 + m_ % 60) 0) r221.1).bind fun r323 =>
if r323 = true then (blocksonce_J5 m_ k35 q33 p34 r79 r221) else (some false)) else (if r221.1 = r79.1 then ((aused_M q33 r221.2.2 (2 + m_ % 60) (placeOf 7 1 (2 + 0 % 20) (2 + m_ % 60) 0) r221.1).bind fun r339 =>
if r339 = true then (blocksonce_J5 m_ k35 q33 p34 r79 r221) else (some false)) else (some false)))) else (some false)) else (blocksonce_J5 m_ k35 q33 p34 r79 r221))) else (if r221.2.1 = 7 then (if r221.2.1 = 7 then (if r229.2 = r85.2 then (if r221.2.1 = 0 then (need (-9223372036854775808 ≤ (r85.2 - r73) ∧ (r85.2 - r73) ≤ 9223372036854775807) <|
if r229.2 = (r85.2 - r73) then (if r221.1 < 1 then (some false) else (if r79.1 = 0 then ((aused_M q33 r221.2.2 (2 + m_ % 60) (placeOf 7 1 (2 + 0 % 20) (2 + m_ % 60) 0) r221.1).bind fun r375 =>
if r375 = true then (blocksonce_J5 m_ k35 q33 p34 r79 r221) else (some false)) else (if r221.1 = r79.1 then ((aused_M q33 r221.2.2 (2 + m_ % 60) (placeOf 7 1 (2 + 0 % 20) (2 + m_ % 60) 0) r221.1).bind fun r391 =>
if r391 = true then (blocksonce_J5 m_ k35 q33 p34 r79 r221) else (some false)) else (some false)))) else (some false)) else (blocksonce_J5 m_ k35 q33 p34 r79 r221)) else (some false)) else (if r221.2.1 = 0 then (need (-9223372036854775808 ≤ (r85.2 - r73) ∧ (r85.2 - r73) ≤ 9223372036854775807) <|
if r229.2 = (r85.2 - r73) then (if r221.1 < 1 then (some false) else (if r79.1 = 0 then ((aused_M q33 r221.2.2 (2 + m_ % 60) (placeOf 7 1 (2 + 0 % 20) (2 + m_ % 60) 0) r221.1).bind fun r426 =>
if r426 = true then (blocksonce_J5 m_ k35 q33 p34 r79 r221) else (some false)) else (if r221.1 = r79.1 then ((aused_M q33 r221.2.2 (2 + m_ % 60) (placeOf 7 1 (2 + 0 % 20) (2 + m_ % 60) 0) r221.1).bind fun r442 =>
if r442 = true then (blocksonce_J5 m_ k35 q33 p34 r79 r221) else (some false)) else (some false)))) else (some false)) else (blocksonce_J5 m_ k35 q33 p34 r79 r221))) else (some false))) else (some false)) else (if ((ss.getD p34.toNat dSt13).c0).tmod 3 = 1 then ((bDrop_M q33 ([]) 1 (2 + 0 % 20) (2 + m_ % 60) 1 r70).bind fun r475 =>
if r475.1 = 0 then ((bneed_M q33 r475.2 1 (2 + 0 % 20) (2 + m_ % 60) 1 r70).bind fun r483 =>
if r483 = 0 then (some false) else (blocksonce_J2 m_ k35 q33 p34 r475.2)) else (some false)) else ((bCut_M q33 ([]) 1 (2 + 0 % 20) (2 + m_ % 60) 1 r70).bind fun r502 =>
if r502.1 = 0 then (iter (fun k_ s_ => blocksonce_B2 m_ k35 q33 p34 r502 k_ s_) FUEL r70) else (some false)))) else ((some (if May 1 (2 + 0 % 20) (2 + m_ % 60) then (8 : Int) else 1)).bind fun r542 =>
some false)) else ((some ((igetM q33 ([]) 1 (2 + 0 % 20) (2 + m_ % 60) 1).2)).bind fun r551 =>
need ((q33.length : Int) ≤ 1000000000000) <|
if May 1 (2 + 0 % 20) (2 + m_ % 60) ∧ wordsOf 1 (2 + 0 % 20) (2 + m_ % 60) ≤ (q33.length : Int) then (some false) else ((some (if May 1 (2 + 0 % 20) (2 + m_ % 60) then (8 : Int) else 1)).bind fun r569 =>
some false))) else ((works13_M).bind fun r576 =>
some r576)

def blocksonce_M (m_ : Int) (ss : List TSt13) : Option (Bool) :=
 if (ss.length : Int) > 60 then ((works13_M).bind fun r6 =>
some r6) else (need ((0 : Int) ≤ 0 ∧ (0 : Int) ≤ 255) <|
need ((0 : Int) ≤ m_ ∧ (m_ : Int) ≤ 255) <|
iter (fun k_ s_ => blocksonce_B0 m_ ss k_ s_.1 s_.2) FUEL ((fmtW 1 (2 + 0 % 20) (2 + m_ % 60)), 0))

theorem blocksonce_walk {m_ : Int} {ss : List TSt13} {sa : Option Addr} {sc : Nat}  (B : Nat) (w : World) (hB : w.heap.size = B) (hT : CellsAt (some ⟨0, 0, none⟩) tab8 w) (hst : CellsAt sa (kSt13.cells ss) w) (hm : blocksonce_M m_ ss = some true) : Spec Tryd.prog 6 #[(.int .u8 m_), (.slice sa ss.length sc)] B w [] (fun v H' => v = .bool true ∧ H' = []) := by
 refine spec_Q Tryd.func6 rfl fun hs => ?_
 unfold blocksonce_M at hm
 have hG : 0 < B := by rw [← hB]; exact lt_of_cells hT (v := .int .u8 0) (by kernel_rfl)
 refine W.sr fun K1 hK1 => ?_
 refine zE 1 (hK1 _ _ ?_)
 refine W.seq fun K2 hK2 => ?_
 refine W.sr fun K3 hK3 => ?_
 refine zE 3 (hK3 _ _ ?_)
 refine W.cond (decide ((ss.length : Int) > 60)) (by kernel_rfl) (fun h4 => ?_) (fun h4 => ?_)
 ·
  obtain ⟨h4p, hm⟩ := iY hm h4
  refine W.sr fun K5 hK5 => ?_
  obtain ⟨r6, h7, hm⟩ := bind_some hm
  refine zC00 hs (works13_walk (hG := hG) (hT := (hs.oldCells hT)) (hm := h7) B _) fun w8 hs10 => ?_
  refine zE 1 (hK5 _ _ ?_)
  refine W.ret (ret_seq ?_)
  refine ret_of (.bool r6) (by kernel_rfl) ⟨_, ⟨congrArg Value.bool (some_inj hm), rfl⟩, hs10⟩
 ·
  obtain ⟨h4p, hm⟩ := iN hm h4
  refine W.skip ?_
  refine hK2 _ _ ?_
  refine W.sr fun K11 hK11 => ?_
  refine zR 1 ?_
  obtain ⟨h12, hm⟩ := need_some hm
  obtain ⟨h13, hm⟩ := need_some hm
  refine zC00 hs (small_spec (x_ := 0) (y_ := m_) (hx := h12) (hy := h13) B _) fun w14 hs16 => ?_
  refine zN [(.int .i64 0), (.int .i64 0), (.int .i64 0)] 23 hs16 fun b19 w17 hs18 => ?_
  refine ops_store (off := 0) (cs := [(.int .i64 0), (.int .i64 0), (.int .i64 0)]) (vs := [(.int .i64 1), (.int .i64 (2 + 0 % 20)), (.int .i64 (2 + m_ % 60))]) hs18 (by kernel_rfl) (by simp) rfl (fun w20 hs21 => ?_)
  have hs22 : St B w [] w20 [blk b19 (.cells [(.int .i64 1), (.int .i64 (2 + 0 % 20)), (.int .i64 (2 + m_ % 60))].toArray 23 (0, 0))] := hs21
  refine zD (hK11 _ _ ?_)
  refine W.sr fun K23 hK23 => ?_
  refine ops_R (runs_loadAgg (ad := ⟨b19, 0, none⟩) (cs := [(.int .i64 1), (.int .i64 (2 + 0 % 20)), (.int .i64 (2 + m_ % 60))]) (by kernel_rfl) (cells_sub (hs22.heapAt 0 rfl) rfl)) ?_
  refine ops_call0 hs22 (by kernel_rfl) (format_spec (gw := 1) (gi := (2 + 0 % 20)) (gb := (2 + m_ % 60)) B _) ?_
  rintro _ _ w26 ⟨a24, c25, rfl, rfl⟩ hs27
  have hs28 := St.ap1 hs27
  refine zE 1 (hK23 _ _ ?_)
  refine W.seq fun K29 hK29 => ?_
  refine W.sr fun K30 hK30 => ?_
  refine zE 1 (hK30 _ _ ?_)
  refine W.block ?_
  have hs39 := St.f1 hs28
  refine W.loop_iter (G := (List Int) × Int × (Option Addr) × Nat) (σ := (List Int) × Int) (fun | (q33, p34, m31, m32) => (q33, p34)) (fun | (q33, p34, m31, m32), s_, w_ => (∃ us, s_ = slots 279 [(1, (.slice sa ss.length sc)), (5, (.pointer (some ⟨b19, 0, none⟩))), (6, (.slice m31 q33.length m32)), (7, (.int .i64 p34))] us) ∧ St B w [] w_ [blk b19 (.cells [(.int .i64 1), (.int .i64 (2 + 0 % 20)), (.int .i64 (2 + m_ % 60))].toArray 23 (0, 0)), kU64.row m31 m32 q33]) ((fmtW 1 (2 + 0 % 20) (2 + m_ % 60)), 0, a24, c25) ⟨slots_intro _ (by kernel_rfl), hs39⟩ hm ?_
  rintro k35 ih36 ⟨q33, p34, m31, m32⟩ _ w37 ⟨⟨us, rfl⟩, hs38⟩ hm
  replace hm : blocksonce_B0 m_ ss k35 q33 p34 = some true := hm
  unfold blocksonce_B0 at hm
  refine W.seq fun K40 hK40 => ?_
  refine W.sr fun K41 hK41 => ?_
  refine zE 4 (hK41 _ _ ?_)
  refine W.cond (decide (p34 < (ss.length : Int))) (by kernel_rfl) (fun h42 => ?_) (fun h42 => ?_)
  ·
   obtain ⟨h42p, hm⟩ := iY hm h42
   refine W.skip ?_
   refine hK40 _ _ ?_
   refine W.seq fun K43 hK43 => ?_
   refine W.block ?_
   refine W.sr fun K44 hK44 => ?_
   refine zR 1 ?_
   obtain ⟨h46, hm⟩ := need_some hm
   refine ops_call0 hs38 (by kernel_rfl) (new_spec (hc := (St.kcells kU64 hs38 1 rfl)) (hn := (St.capnil kU64 hs38 1 rfl)) (hsz := h46) B _) ?_
   rintro _ _ w47 ⟨b45, rfl, rfl⟩ hs48
   have hs49 := St.ap1 hs48
   refine zE 1 (hK44 _ _ ?_)
   refine W.sr fun K50 hK50 => ?_
   refine zR 1 ?_
   refine ops_R (runs_loadAgg (ad := ⟨b19, 0, none⟩) (cs := [(.int .i64 1), (.int .i64 (2 + 0 % 20)), (.int .i64 (2 + m_ % 60))]) (by kernel_rfl) (cells_sub (hs49.heapAt 1 rfl) rfl)) ?_
   rcases Bool.eq_false_or_eq_true (decide ((igetM q33 ([]) 1 (2 + 0 % 20) (2 + m_ % 60) 1).2 = 0)) with h51 | h51
   ·
    obtain ⟨h51p, hm⟩ := iY hm h51
    refine ops_call0 hs49 (by kernel_rfl) (bof_ok (gw := 1) (gi := (2 + 0 % 20)) (gb := (2 + m_ % 60)) (n_ := 1) (hv := (hs49.entAt 0 rfl viewA_at)) (hP := h51p) B _) ?_
    rintro _ _ w53 ⟨b52, rfl, rfl⟩ hs54
    have hs55 := St.ap1 hs54
    refine zE 5 (hK50 _ _ ?_)
    refine W.sr fun K56 hK56 => ?_
    refine zR 1 ?_
    refine ops_R (runs_loadAgg (ad := ⟨b19, 0, none⟩) (cs := [(.int .i64 1), (.int .i64 (2 + 0 % 20)), (.int .i64 (2 + m_ % 60))]) (by kernel_rfl) (cells_sub (hs55.heapAt 2 rfl) rfl)) ?_
    obtain ⟨h57, hm⟩ := need_some hm
    rcases Bool.eq_false_or_eq_true (decide (May 1 (2 + 0 % 20) (2 + m_ % 60) ∧ wordsOf 1 (2 + 0 % 20) (2 + m_ % 60) ≤ (q33.length : Int))) with h58 | h58
    ·
     obtain ⟨h58p, hm⟩ := iY hm h58
     refine ops_call0 hs55 (by kernel_rfl) (anew_ok (gw := 1) (gi := (2 + 0 % 20)) (gb := (2 + m_ % 60)) (hv := (hs55.entAt 1 rfl viewA_at)) (hz := h57) (hP := h58p) B _) ?_
     rintro _ _ w62 ⟨b59, b60, b61, rfl, rfl⟩ hs63
     have hs64 := St.ap3 hs63
     refine zE 5 (hK56 _ _ ?_)
     refine W.seq fun K65 hK65 => ?_
     refine W.sr fun K66 hK66 => ?_
     refine zE 18 (hK66 _ _ ?_)
     refine W.cond_false false (by kernel_rfl) rfl ?_
     refine W.skip ?_
     refine hK65 _ _ ?_
     refine W.sr fun K67 hK67 => ?_
     refine zR 2 ?_
     obtain ⟨h69, hm⟩ := need_some hm
     have hk68 := lt_toNat h69
     refine ops_R (runs_index (a := sa) (n := ss.length) (z := p34) (size := 3) p34.toNat (nat_of h69.1) hk68 (kSt13.addr (hs64.oldCells hst) hk68) (by kernel_rfl)) ?_
     refine zR 1 ?_
     refine zL ((adr sa (p34.toNat * 3)).add 1) (.int .i64 ((ss.getD p34.toNat dSt13).c1)) (kSt13.at (hs64.oldCells hst) hk68 dSt13 1 rfl) ?_
     refine zR 3 ?_
     obtain ⟨r70, h71, hm⟩ := bind_some hm
     replace h71 := some_inj h71
     refine ops_set 13 (v := .int .i64 r70) (Eq.trans (by kernel_rfl) (congrArg (Value.int .i64) h71)) ?_
     refine zD (hK67 _ _ ?_)
     refine W.sr fun K72 hK72 => ?_
     refine zR 2 ?_
     obtain ⟨r73, h74, hm⟩ := bind_some hm
     refine zC00 hs64 (bneed_walk (k_ := r70) (img := q33) (l := []) (gw := 1) (gi := (2 + 0 % 20)) (gb := (2 + m_ % 60)) (n_ := 1) (hmb := (hs64.heapAt 3 rfl)) (hv := (hs64.entAt 4 rfl viewA_at)) (hm := h74) B _) fun w75 hs77 => ?_
     refine zE 1 (hK72 _ _ ?_)
     refine W.sr fun K78 hK78 => ?_
     refine zR 2 ?_
     obtain ⟨r79, h80, hm⟩ := bind_some hm
     refine zC00 hs77 (bat_walk (k_ := r70) (img := q33) (l := []) (gw := 1) (gi := (2 + 0 % 20)) (gb := (2 + m_ % 60)) (n_ := 1) (hmb := (hs77.heapAt 3 rfl)) (hv := (hs77.entAt 4 rfl viewA_at)) (hm := h80) B _) fun w81 hs83 => ?_
     refine zE 5 (hK78 _ _ ?_)
     refine W.sr fun K84 hK84 => ?_
     refine zR 1 ?_
     obtain ⟨r85, h86, hm⟩ := bind_some hm
     refine zC00 hs83 (afree_walk (hab := (hs83.heapAt 0 rfl)) (hib := (hs83.heapAt 1 rfl)) (hbb := (hs83.heapAt 2 rfl)) (hv := (hs83.entAt 4 rfl viewA_at)) (hm := h86) B _) fun w87 hs89 => ?_
     refine zE 5 (hK84 _ _ ?_)
     refine W.seq_join (fun s_ w_ => ∃ (l90 : List (Int × Int)), (∃ us, s_ = slots 279 [(1, (.slice sa ss.length sc)), (5, (.pointer (some ⟨b19, 0, none⟩))), (7, (.int .i64 p34)), (8, (.pointer (some ⟨b45, 0, none⟩))), (9, (.pointer (some ⟨b52, 0, none⟩))), (11, (.pointer (some ⟨b59, 0, none⟩)))] us) ∧ St B w [] w_ [blk b19 (.cells [(.int .i64 1), (.int .i64 (2 + 0 % 20)), (.int .i64 (2 + m_ % 60))].toArray 23 (0, 0)), viewA (ptr b45) q33 l90, blk b52 (.cells [(.pointer (some ⟨b45, 0, none⟩)), (.int .i64 1), (.int .i64 (2 + 0 % 20)), (.int .i64 (2 + m_ % 60)), (.int .i64 1)].toArray 85 (0, 0)), blk b60 (.cells [(.pointer (some ⟨b45, 0, none⟩)), (.int .i64 (placeOf 6 1 (2 + 0 % 20) (2 + m_ % 60) 0)), (.int .i64 (2 + 0 % 20))].toArray 136 (0, 0)), blk b61 (.cells [(.pointer (some ⟨b45, 0, none⟩)), (.int .i64 (placeOf 7 1 (2 + 0 % 20) (2 + m_ % 60) 0)), (.int .i64 (2 + m_ % 60))].toArray 136 (0, 0)), blk b59 (.cells [(.pointer (some ⟨b45, 0, none⟩)), (.int .i64 1), (.int .i64 (2 + 0 % 20)), (.int .i64 (2 + m_ % 60)), (.pointer (some ⟨b60, 0, none⟩)), (.int .i64 (2 + 0 % 20)), (.pointer (some ⟨b61, 0, none⟩)), (.int .i64 (2 + m_ % 60))].toArray 114 (0, 0)), kU64.row m31 m32 q33] ∧ blocksonce_J2 m_ k35 q33 p34 l90 = some true) ?_ ?_
     ·
      rintro _ w91 ⟨l90, ⟨us, rfl⟩, hs92, hm⟩
      unfold blocksonce_J2 at hm
      refine W.sr fun K93 hK93 => ?_
      refine zR 1 ?_
      obtain ⟨r96, h97, hm⟩ := bind_some hm
      have hs98 := St.f1 hs92
      have hs99 := St.f2 hs98
      refine ops_call2 hs99 (by kernel_rfl) (bList_walk (mb := b52) (vb := b45) (img := q33) (l := l90) (gw := 1) (gi := (2 + 0 % 20)) (gb := (2 + m_ % 60)) (n_ := 1) (hm := h97) B _) ?_
      rintro _ _ w100 ⟨a94, c95, rfl, rfl⟩ hs101
      have hs102 := St.ap3 hs101
      refine zE 1 (hK93 _ _ ?_)
      refine W.sr fun K103 hK103 => ?_
      refine ops_new (fun b => .pointer (some ⟨b, 0, none⟩)) (.cells (kBool.cells (List.replicate 64 false)).toArray 60 (0, 0)) hs102 (by kernel_rfl) (fun b109 w107 hs108 => ?_)
      refine zD (hK103 _ _ ?_)
      refine W.seq_join (fun s_ w_ => ∃ (q110 : List Bool), (∃ us, s_ = slots 279 [(1, (.slice sa ss.length sc)), (5, (.pointer (some ⟨b19, 0, none⟩))), (7, (.int .i64 p34)), (8, (.pointer (some ⟨b45, 0, none⟩))), (11, (.pointer (some ⟨b59, 0, none⟩))), (25, (.slice a94 r96.length c95))] us) ∧ St B w [] w_ [blk b19 (.cells [(.int .i64 1), (.int .i64 (2 + 0 % 20)), (.int .i64 (2 + m_ % 60))].toArray 23 (0, 0)), viewA (ptr b45) q33 l90, blk b60 (.cells [(.pointer (some ⟨b45, 0, none⟩)), (.int .i64 (placeOf 6 1 (2 + 0 % 20) (2 + m_ % 60) 0)), (.int .i64 (2 + 0 % 20))].toArray 136 (0, 0)), blk b61 (.cells [(.pointer (some ⟨b45, 0, none⟩)), (.int .i64 (placeOf 7 1 (2 + 0 % 20) (2 + m_ % 60) 0)), (.int .i64 (2 + m_ % 60))].toArray 136 (0, 0)), blk b59 (.cells [(.pointer (some ⟨b45, 0, none⟩)), (.int .i64 1), (.int .i64 (2 + 0 % 20)), (.int .i64 (2 + m_ % 60)), (.pointer (some ⟨b60, 0, none⟩)), (.int .i64 (2 + 0 % 20)), (.pointer (some ⟨b61, 0, none⟩)), (.int .i64 (2 + m_ % 60))].toArray 114 (0, 0)), kInt.row a94 c95 r96, blk b109 (.cells (kBool.cells q110).toArray 60 (0, 0)), blk b52 (.cells [(.pointer (some ⟨b45, 0, none⟩)), (.int .i64 1), (.int .i64 (2 + 0 % 20)), (.int .i64 (2 + m_ % 60)), (.int .i64 1)].toArray 85 (0, 0)), kU64.row m31 m32 q33] ∧ blocksonce_J3 m_ k35 q33 p34 l90 r96 q110 = some true) ?_ ?_
      ·
       rintro _ w111 ⟨q110, ⟨us, rfl⟩, hs112, hm⟩
       unfold blocksonce_J3 at hm
       refine W.sr fun K113 hK113 => ?_
       refine zR 1 ?_
       obtain ⟨r114, h115, hm⟩ := bind_some hm
       refine zC00 hs112 (afree_walk (hab := (hs112.heapAt 4 rfl)) (hib := (hs112.heapAt 2 rfl)) (hbb := (hs112.heapAt 3 rfl)) (hv := (hs112.entAt 1 rfl viewA_at)) (hm := h115) B _) fun w116 hs118 => ?_
       refine zE 4 (hK113 _ _ ?_)
       refine W.sr fun K119 hK119 => ?_
       refine zR 1 ?_
       refine ops_call0 hs118 (by kernel_rfl) (flat_spec (hv := (hs118.entAt 1 rfl viewA_at)) B _) ?_
       rintro _ _ w122 ⟨a120, c121, rfl, rfl⟩ hs123
       have hs124 := St.ap1 hs123
       refine zE 1 (hK119 _ _ ?_)
       refine W.sr fun K125 hK125 => ?_
       refine zR 3 ?_
       obtain ⟨h126, hm⟩ := need_some hm
       refine zI _ (wrap_i64 h126.1 h126.2) ?_
       refine zR 1 ?_
       refine zL ⟨b19, 2, none⟩ (.int .i64 (2 + m_ % 60)) (hs124.cellAt 1 rfl rfl) ?_
       obtain ⟨h127, hm⟩ := need_some hm
       refine zI _ (wrap_i64 h127.1 h127.2) ?_
       refine zR 2 ?_
       rcases Bool.eq_false_or_eq_true (!decide ((r114.2 + (r96.length : Int)) = ((2 + m_ % 60) - 1))) with h128 | h128
       rotate_left
       ·
        have h128p : (r114.2 + (r96.length : Int)) = ((2 + m_ % 60) - 1) := of_decide_eq_true (bnot_false h128)
        replace hm := ite_yes hm h128p
        refine zS 271 h128 ?_
        refine zS 270 h128 ?_
        refine zR 2 ?_
        refine ops_R (runs_loadAgg (ad := ⟨b19, 0, none⟩) (cs := [(.int .i64 1), (.int .i64 (2 + 0 % 20)), (.int .i64 (2 + m_ % 60))]) (by kernel_rfl) (cells_sub (hs124.heapAt 1 rfl) rfl)) ?_
        obtain ⟨r129, h130, hm⟩ := bind_some hm
        replace h130 := some_inj h130
        refine ops_call0 hs124 (by kernel_rfl) (lwords_spec (gw := 1) (gi := (2 + 0 % 20)) (gb := (2 + m_ % 60)) B _) ?_
        rintro _ _ w131 ⟨hv133, hH134⟩ hs132
        rw [h130] at hv133
        try rw [h130] at hH134
        subst hv133 hH134
        have hs135 := St.ap0 hs132
        refine zE 2 (hK125 _ _ ?_)
        refine W.cond (!decide ((((vflat q33 l90).length) : Int) = r129)) (by kernel_rfl) (fun h136 => ?_) (fun h136 => ?_)
        rotate_left
        ·
         have h136p : (((vflat q33 l90).length) : Int) = r129 := of_decide_eq_true (bnot_false h136)
         replace hm := ite_yes hm h136p
         refine W.skip ?_
         refine normal_block ?_
         refine hK43 _ _ ?_
         refine W.region ?_
         refine zR 1 ?_
         obtain ⟨h137, hm⟩ := need_some hm
         refine zI _ (wrap_i64 h137.1 h137.2) ?_
         refine zE 1 ?_
         have hs138 := St.f1 hs135
         have hs139 := St.tk2 hs138
         refine loopAt_next ?_
         exact ih36 ((vflat q33 l90), (p34 + 1), a120, c121) _ _ ⟨slots_intro _ (by kernel_rfl), hs139⟩ hm
        ·
         have h136p : ¬ ((((vflat q33 l90).length) : Int) = r129) := of_decide_eq_false (bnot_true h136)
         replace hm := ite_no hm h136p
         refine W.sr fun K140 hK140 => ?_
         refine zE 1 (hK140 _ _ ?_)
         refine W.ret (ret_block (ret_seq (ret_seq (ret_block (ret_seq ?_)))))
         have hs141 := St.tk0 hs135
         refine ret_of (.bool false) (by kernel_rfl) ⟨_, ⟨congrArg Value.bool (some_inj hm), rfl⟩, hs141⟩
       ·
        have h128p : ¬ ((r114.2 + (r96.length : Int)) = ((2 + m_ % 60) - 1)) := of_decide_eq_false (bnot_true h128)
        replace hm := ite_no hm h128p
        refine zS 271 h128 ?_
        refine zS 270 h128 ?_
        refine zE 6 (hK125 _ _ ?_)
        refine W.cond_true true (by kernel_rfl) rfl ?_
        refine W.sr fun K142 hK142 => ?_
        refine zE 1 (hK142 _ _ ?_)
        refine W.ret (ret_block (ret_seq (ret_seq (ret_block (ret_seq ?_)))))
        have hs143 := St.tk0 hs124
        refine ret_of (.bool false) (by kernel_rfl) ⟨_, ⟨congrArg Value.bool (some_inj hm), rfl⟩, hs143⟩
      ·
       refine W.sr fun K144 hK144 => ?_
       refine zE 1 (hK144 _ _ ?_)
       refine W.block ?_
       have hs151 := St.f8 hs108
       have hs152 := St.f3 hs151
       have hs153 := St.f2 hs152
       have hs154 := St.f3 hs153
       have hs155 := St.f8 hs154
       have hs156 := St.f8 hs155
       have hs157 := St.f8 hs156
       have hs158 := St.f7 hs157
       have hs159 := St.f8 hs158
       refine W.loop_iter (G := (List Bool) × Int) (σ := (List Bool) × Int) (fun | (q145, p146) => (q145, p146)) (fun | (q145, p146), s_, w_ => (∃ us, s_ = slots 279 [(1, (.slice sa ss.length sc)), (5, (.pointer (some ⟨b19, 0, none⟩))), (7, (.int .i64 p34)), (8, (.pointer (some ⟨b45, 0, none⟩))), (11, (.pointer (some ⟨b59, 0, none⟩))), (25, (.slice a94 r96.length c95)), (26, (.pointer (some ⟨b109, 0, none⟩))), (27, (.int .i64 p146))] us) ∧ St B w [] w_ [blk b19 (.cells [(.int .i64 1), (.int .i64 (2 + 0 % 20)), (.int .i64 (2 + m_ % 60))].toArray 23 (0, 0)), viewA (ptr b45) q33 l90, blk b60 (.cells [(.pointer (some ⟨b45, 0, none⟩)), (.int .i64 (placeOf 6 1 (2 + 0 % 20) (2 + m_ % 60) 0)), (.int .i64 (2 + 0 % 20))].toArray 136 (0, 0)), blk b61 (.cells [(.pointer (some ⟨b45, 0, none⟩)), (.int .i64 (placeOf 7 1 (2 + 0 % 20) (2 + m_ % 60) 0)), (.int .i64 (2 + m_ % 60))].toArray 136 (0, 0)), blk b59 (.cells [(.pointer (some ⟨b45, 0, none⟩)), (.int .i64 1), (.int .i64 (2 + 0 % 20)), (.int .i64 (2 + m_ % 60)), (.pointer (some ⟨b60, 0, none⟩)), (.int .i64 (2 + 0 % 20)), (.pointer (some ⟨b61, 0, none⟩)), (.int .i64 (2 + m_ % 60))].toArray 114 (0, 0)), kInt.row a94 c95 r96, blk b109 (.cells (kBool.cells q145).toArray 60 (0, 0)), blk b52 (.cells [(.pointer (some ⟨b45, 0, none⟩)), (.int .i64 1), (.int .i64 (2 + 0 % 20)), (.int .i64 (2 + m_ % 60)), (.int .i64 1)].toArray 85 (0, 0)), kU64.row m31 m32 q33]) ((List.replicate 64 false), 0) ⟨slots_intro _ (by kernel_rfl), hs159⟩ hm ?_
       rintro k147 ih148 ⟨q145, p146⟩ _ w149 ⟨⟨us, rfl⟩, hs150⟩ hm
       replace hm : blocksonce_B3 m_ k35 q33 p34 l90 r96 k147 q145 p146 = some true := hm
       unfold blocksonce_B3 at hm
       refine W.seq fun K160 hK160 => ?_
       refine W.sr fun K161 hK161 => ?_
       refine zE 4 (hK161 _ _ ?_)
       refine W.cond (decide (p146 < (r96.length : Int))) (by kernel_rfl) (fun h162 => ?_) (fun h162 => ?_)
       ·
        obtain ⟨h162p, hm⟩ := iY hm h162
        refine W.skip ?_
        refine hK160 _ _ ?_
        refine W.seq fun K163 hK163 => ?_
        refine W.block ?_
        refine W.seq fun K164 hK164 => ?_
        refine W.seq fun K165 hK165 => ?_
        have hs166 := hs150.drew
        refine W.regionD [(0, 0), (0, 0), (3, 3), (4, 4), (8, 8), (16, 16), (32, 32), (32, 32), (224, 224), (288, 288), (32, 32), (1056, 1056), (2592, 2592), (4128, 4128), (8224, 8192), (16384, 16384), (16384, 16384), (114688, 114688), (147456, 147456), (278528, 278528), (540672, 540672), (1064960, 1064960), (2113536, 2097152), (4194304, 4194304), (4194304, 4194304), (4194304, 4194304), (54525952, 54525952), (71303168, 71303168), (146800640, 146800640), (272629760, 272629760), (541065216, 541065216)] (fun w_ => St B w [] w_ [blk b19 (.cells [(.int .i64 1), (.int .i64 (2 + 0 % 20)), (.int .i64 (2 + m_ % 60))].toArray 23 (0, 0)), viewA (ptr b45) q33 l90, blk b60 (.cells [(.pointer (some ⟨b45, 0, none⟩)), (.int .i64 (placeOf 6 1 (2 + 0 % 20) (2 + m_ % 60) 0)), (.int .i64 (2 + 0 % 20))].toArray 136 (0, 0)), blk b61 (.cells [(.pointer (some ⟨b45, 0, none⟩)), (.int .i64 (placeOf 7 1 (2 + 0 % 20) (2 + m_ % 60) 0)), (.int .i64 (2 + m_ % 60))].toArray 136 (0, 0)), blk b59 (.cells [(.pointer (some ⟨b45, 0, none⟩)), (.int .i64 1), (.int .i64 (2 + 0 % 20)), (.int .i64 (2 + m_ % 60)), (.pointer (some ⟨b60, 0, none⟩)), (.int .i64 (2 + 0 % 20)), (.pointer (some ⟨b61, 0, none⟩)), (.int .i64 (2 + m_ % 60))].toArray 114 (0, 0)), kInt.row a94 c95 r96, blk b109 (.cells (kBool.cells q145).toArray 60 (0, 0)), blk b52 (.cells [(.pointer (some ⟨b45, 0, none⟩)), (.int .i64 1), (.int .i64 (2 + 0 % 20)), (.int .i64 (2 + m_ % 60)), (.int .i64 1)].toArray 85 (0, 0)), kU64.row m31 m32 q33]) (by kernel_rfl) hs166 ?_
        refine any_val (v := (.slice a94 r96.length c95)) (v' := (.slice a94 r96.length c95)) 0 (by kernel_rfl) (fun _ => by kernel_rfl) rfl hs166 ?_
        refine any_val (v := (.int .i64 p146)) (v' := (.int .i64 p146)) 1 (by kernel_rfl) (fun _ => by kernel_rfl) rfl hs166 ?_
        obtain ⟨h168, hm⟩ := need_some hm
        have hk167 := lt_toNat h168
        refine any_R 2 (by kernel_rfl) (fun _ hS_ => runs_index (a := a94) (n := r96.length) (z := p146) (size := 1) p146.toNat (nat_of h168.1) hk167 (kInt.addr (St.kcells kInt hs166 5 rfl) hk167) (by kernel_rfl)) hs166 ?_
        refine any_R 3 (by kernel_rfl) (fun _ hS_ => runs_load (ad := ((adr a94 (p146.toNat * 1)).add 0)) (v := (.int .i64 (r96.getD p146.toNat 0))) (by kernel_rfl) (kInt.at (St.kcells kInt hS_ 5 rfl) hk167 0 0 rfl)) hs166 ?_
        refine any_val (v := (.bool (decide ((r96.getD p146.toNat 0) < 1)))) (v' := (.bool (decide ((r96.getD p146.toNat 0) < 1)))) 4 (by kernel_rfl) (fun _ => by kernel_rfl) rfl hs166 ?_
        refine any_val (v := (.bool (decide ((r96.getD p146.toNat 0) < 1)))) (v' := (.bool (decide ((r96.getD p146.toNat 0) < 1)))) 5 (by kernel_rfl) (fun _ => by kernel_rfl) rfl hs166 ?_
        rcases Bool.eq_false_or_eq_true (decide ((r96.getD p146.toNat 0) < 1)) with h169 | h169
        ·
         obtain ⟨h169p, hm⟩ := iY hm h169
         refine any_set 224 (v := .bool true) (eq_bool_of (by kernel_rfl) h169) ?_
         refine any_set 225 (v := .bool true) (eq_bool_of (by kernel_rfl) h169) ?_
         refine any_skip 6 (by kernel_rfl) (by kernel_rfl) hs166 ?_
         refine any_skip 7 (by kernel_rfl) (by kernel_rfl) hs166 ?_
         refine any_skip 8 (by kernel_rfl) (by kernel_rfl) hs166 ?_
         refine any_skip 9 (by kernel_rfl) (by kernel_rfl) hs166 ?_
         refine any_skip 10 (by kernel_rfl) (by kernel_rfl) hs166 ?_
         refine any_skip 11 (by kernel_rfl) (by kernel_rfl) hs166 ?_
         refine any_skip 12 (by kernel_rfl) (by kernel_rfl) hs166 ?_
         refine any_val (v := (.bool true)) (v' := (.bool true)) 13 (by kernel_rfl) (fun _ => by kernel_rfl) rfl hs166 ?_
         refine any_val (v := (.bool true)) (v' := (.bool true)) 14 (by kernel_rfl) (fun _ => by kernel_rfl) rfl hs166 ?_
         refine any_skip 15 (by kernel_rfl) (by kernel_rfl) hs166 ?_
         refine any_skip 16 (by kernel_rfl) (by kernel_rfl) hs166 ?_
         refine any_skip 17 (by kernel_rfl) (by kernel_rfl) hs166 ?_
         refine any_skip 18 (by kernel_rfl) (by kernel_rfl) hs166 ?_
         refine any_skip 19 (by kernel_rfl) (by kernel_rfl) hs166 ?_
         refine any_skip 20 (by kernel_rfl) (by kernel_rfl) hs166 ?_
         refine any_val (v := (.bool true)) (v' := (.bool true)) 21 (by kernel_rfl) (fun _ => by kernel_rfl) rfl hs166 ?_
         refine any_val (v := (.bool true)) (v' := (.bool true)) 22 (by kernel_rfl) (fun _ => by kernel_rfl) rfl hs166 ?_
         refine any_skip 23 (by kernel_rfl) (by kernel_rfl) hs166 ?_
         refine any_skip 24 (by kernel_rfl) (by kernel_rfl) hs166 ?_
         refine any_skip 25 (by kernel_rfl) (by kernel_rfl) hs166 ?_
         refine any_skip 26 (by kernel_rfl) (by kernel_rfl) hs166 ?_
         refine any_skip 27 (by kernel_rfl) (by kernel_rfl) hs166 ?_
         refine any_skip 28 (by kernel_rfl) (by kernel_rfl) hs166 ?_
         refine any_skip 29 (by kernel_rfl) (by kernel_rfl) hs166 ?_
         refine any_val (v := (.bool true)) (v' := (.bool true)) 30 (by kernel_rfl) (fun _ => by kernel_rfl) rfl hs166 ?_
         refine any_done (by kernel_rfl) ?_
         refine hK165 _ _ ?_
         refine W.cond_true true (by kernel_rfl) rfl ?_
         refine W.sr fun K170 hK170 => ?_
         refine zE 1 (hK170 _ _ ?_)
         refine W.ret (ret_seq (ret_block (ret_seq (ret_seq (ret_block (ret_seq (ret_block (ret_seq (ret_seq (ret_block (ret_seq ?_)))))))))))
         have hs171 := St.tk0 hs166
         refine ret_of (.bool false) (by kernel_rfl) ⟨_, ⟨congrArg Value.bool (some_inj hm), rfl⟩, hs171⟩
        ·
         obtain ⟨h169p, hm⟩ := iN hm h169
         refine any_set 224 (v := .bool false) (eq_bool_of (by kernel_rfl) h169) ?_
         refine any_set 225 (v := .bool false) (eq_bool_of (by kernel_rfl) h169) ?_
         refine any_val (v := (.slice a94 r96.length c95)) (v' := (.slice a94 r96.length c95)) 6 (by kernel_rfl) (fun _ => by kernel_rfl) rfl hs166 ?_
         refine any_val (v := (.int .i64 p146)) (v' := (.int .i64 p146)) 7 (by kernel_rfl) (fun _ => by kernel_rfl) rfl hs166 ?_
         obtain ⟨h173, hm⟩ := need_some hm
         have hk172 := lt_toNat h173
         refine any_R 8 (by kernel_rfl) (fun _ hS_ => runs_index (a := a94) (n := r96.length) (z := p146) (size := 1) p146.toNat (nat_of h173.1) hk172 (kInt.addr (St.kcells kInt hs166 5 rfl) hk172) (by kernel_rfl)) hs166 ?_
         refine any_R 9 (by kernel_rfl) (fun _ hS_ => runs_load (ad := ((adr a94 (p146.toNat * 1)).add 0)) (v := (.int .i64 (r96.getD p146.toNat 0))) (by kernel_rfl) (kInt.at (St.kcells kInt hS_ 5 rfl) hk172 0 0 rfl)) hs166 ?_
         refine any_val (v := (.pointer (some ⟨b19, 2, none⟩))) (v' := (.pointer (some ⟨b19, 2, none⟩))) 10 (by kernel_rfl) (fun _ => by kernel_rfl) rfl hs166 ?_
         refine any_R 11 (by kernel_rfl) (fun _ hS_ => runs_load (ad := ⟨b19, 2, none⟩) (v := (.int .i64 (2 + m_ % 60))) (by kernel_rfl) (hS_.cellAt 0 rfl rfl)) hs166 ?_
         refine any_val (v := (.bool (decide ((r96.getD p146.toNat 0) ≥ (2 + m_ % 60))))) (v' := (.bool (decide ((r96.getD p146.toNat 0) ≥ (2 + m_ % 60))))) 12 (by kernel_rfl) (fun _ => by kernel_rfl) rfl hs166 ?_
         refine any_val (v := (.bool (decide ((r96.getD p146.toNat 0) ≥ (2 + m_ % 60))))) (v' := (.bool (decide ((r96.getD p146.toNat 0) ≥ (2 + m_ % 60))))) 13 (by kernel_rfl) (fun _ => by kernel_rfl) rfl hs166 ?_
         refine any_val (v := (.bool (decide ((r96.getD p146.toNat 0) ≥ (2 + m_ % 60))))) (v' := (.bool (decide ((r96.getD p146.toNat 0) ≥ (2 + m_ % 60))))) 14 (by kernel_rfl) (fun _ => by kernel_rfl) rfl hs166 ?_
         rcases Bool.eq_false_or_eq_true (decide ((r96.getD p146.toNat 0) ≥ (2 + m_ % 60))) with h174 | h174
         ·
          obtain ⟨h174p, hm⟩ := iY hm h174
          refine any_set 232 (v := .bool true) (eq_bool_of (by kernel_rfl) h174) ?_
          refine any_set 233 (v := .bool true) (eq_bool_of (by kernel_rfl) h174) ?_
          refine any_set 234 (v := .bool true) (eq_bool_of (by kernel_rfl) h174) ?_
          refine any_skip 15 (by kernel_rfl) (by kernel_rfl) hs166 ?_
          refine any_skip 16 (by kernel_rfl) (by kernel_rfl) hs166 ?_
          refine any_skip 17 (by kernel_rfl) (by kernel_rfl) hs166 ?_
          refine any_skip 18 (by kernel_rfl) (by kernel_rfl) hs166 ?_
          refine any_skip 19 (by kernel_rfl) (by kernel_rfl) hs166 ?_
          refine any_skip 20 (by kernel_rfl) (by kernel_rfl) hs166 ?_
          refine any_val (v := (.bool true)) (v' := (.bool true)) 21 (by kernel_rfl) (fun _ => by kernel_rfl) rfl hs166 ?_
          refine any_val (v := (.bool true)) (v' := (.bool true)) 22 (by kernel_rfl) (fun _ => by kernel_rfl) rfl hs166 ?_
          refine any_skip 23 (by kernel_rfl) (by kernel_rfl) hs166 ?_
          refine any_skip 24 (by kernel_rfl) (by kernel_rfl) hs166 ?_
          refine any_skip 25 (by kernel_rfl) (by kernel_rfl) hs166 ?_
          refine any_skip 26 (by kernel_rfl) (by kernel_rfl) hs166 ?_
          refine any_skip 27 (by kernel_rfl) (by kernel_rfl) hs166 ?_
          refine any_skip 28 (by kernel_rfl) (by kernel_rfl) hs166 ?_
          refine any_skip 29 (by kernel_rfl) (by kernel_rfl) hs166 ?_
          refine any_val (v := (.bool true)) (v' := (.bool true)) 30 (by kernel_rfl) (fun _ => by kernel_rfl) rfl hs166 ?_
          refine any_done (by kernel_rfl) ?_
          refine hK165 _ _ ?_
          refine W.cond_true true (by kernel_rfl) rfl ?_
          refine W.sr fun K175 hK175 => ?_
          refine zE 1 (hK175 _ _ ?_)
          refine W.ret (ret_seq (ret_block (ret_seq (ret_seq (ret_block (ret_seq (ret_block (ret_seq (ret_seq (ret_block (ret_seq ?_)))))))))))
          have hs176 := St.tk0 hs166
          refine ret_of (.bool false) (by kernel_rfl) ⟨_, ⟨congrArg Value.bool (some_inj hm), rfl⟩, hs176⟩
         ·
          obtain ⟨h174p, hm⟩ := iN hm h174
          refine any_set 232 (v := .bool false) (eq_bool_of (by kernel_rfl) h174) ?_
          refine any_set 233 (v := .bool false) (eq_bool_of (by kernel_rfl) h174) ?_
          refine any_set 234 (v := .bool false) (eq_bool_of (by kernel_rfl) h174) ?_
          refine any_val (v := (.slice a94 r96.length c95)) (v' := (.slice a94 r96.length c95)) 15 (by kernel_rfl) (fun _ => by kernel_rfl) rfl hs166 ?_
          refine any_val (v := (.int .i64 p146)) (v' := (.int .i64 p146)) 16 (by kernel_rfl) (fun _ => by kernel_rfl) rfl hs166 ?_
          obtain ⟨h178, hm⟩ := need_some hm
          have hk177 := lt_toNat h178
          refine any_R 17 (by kernel_rfl) (fun _ hS_ => runs_index (a := a94) (n := r96.length) (z := p146) (size := 1) p146.toNat (nat_of h178.1) hk177 (kInt.addr (St.kcells kInt hs166 5 rfl) hk177) (by kernel_rfl)) hs166 ?_
          refine any_R 18 (by kernel_rfl) (fun _ hS_ => runs_load (ad := ((adr a94 (p146.toNat * 1)).add 0)) (v := (.int .i64 (r96.getD p146.toNat 0))) (by kernel_rfl) (kInt.at (St.kcells kInt hS_ 5 rfl) hk177 0 0 rfl)) hs166 ?_
          obtain ⟨h181, hm⟩ := need_some hm
          have hk179 : (r96.getD p146.toNat 0).toNat < 64 := by omega
          obtain ⟨h182, hm⟩ := need_some hm
          have hl180 : (r96.getD p146.toNat 0).toNat < q145.length := by omega
          refine any_R (v := .pointer (some (adr (some ⟨b109, 0, none⟩) (((r96.getD p146.toNat 0).toNat) * 1)))) 19 (by kernel_rfl) (fun _ hS_ => runs_indexA (ad := ⟨b109, 0, none⟩) (n := 64) (z := (r96.getD p146.toNat 0)) (size := 1) ((r96.getD p146.toNat 0).toNat) (nat_of h181.1) hk179 (by kernel_rfl)) hs166 ?_
          refine any_R 20 (by kernel_rfl) (fun _ hS_ => runs_load (ad := ((adr (some ⟨b109, 0, none⟩) (((r96.getD p146.toNat 0).toNat) * 1)).add 0)) (v := (.bool (q145.getD ((r96.getD p146.toNat 0).toNat) false))) (by kernel_rfl) (kBool.at (cells_blk (hS_.heapAt 6 rfl)) hl180 false 0 rfl)) hs166 ?_
          refine any_val (v := (.bool (q145.getD ((r96.getD p146.toNat 0).toNat) false))) (v' := (.bool (q145.getD ((r96.getD p146.toNat 0).toNat) false))) 21 (by kernel_rfl) (fun _ => by kernel_rfl) rfl hs166 ?_
          refine any_val (v := (.bool (q145.getD ((r96.getD p146.toNat 0).toNat) false))) (v' := (.bool (q145.getD ((r96.getD p146.toNat 0).toNat) false))) 22 (by kernel_rfl) (fun _ => by kernel_rfl) rfl hs166 ?_
          rcases Bool.eq_false_or_eq_true (q145.getD ((r96.getD p146.toNat 0).toNat) false) with h183 | h183
          ·
           have h183p : (q145.getD ((r96.getD p146.toNat 0).toNat) false) = true := h183
           replace hm := ite_yes hm h183p
           refine any_set 240 (v := .bool true) (eq_bool_of (by kernel_rfl) h183) ?_
           refine any_set 241 (v := .bool true) (eq_bool_of (by kernel_rfl) h183) ?_
           refine any_set 242 (v := .bool true) (eq_bool_of (by kernel_rfl) h183) ?_
           refine any_skip 23 (by kernel_rfl) (by kernel_rfl) hs166 ?_
           refine any_skip 24 (by kernel_rfl) (by kernel_rfl) hs166 ?_
           refine any_skip 25 (by kernel_rfl) (by kernel_rfl) hs166 ?_
           refine any_skip 26 (by kernel_rfl) (by kernel_rfl) hs166 ?_
           refine any_skip 27 (by kernel_rfl) (by kernel_rfl) hs166 ?_
           refine any_skip 28 (by kernel_rfl) (by kernel_rfl) hs166 ?_
           refine any_skip 29 (by kernel_rfl) (by kernel_rfl) hs166 ?_
           refine any_val (v := (.bool true)) (v' := (.bool true)) 30 (by kernel_rfl) (fun _ => by kernel_rfl) rfl hs166 ?_
           refine any_done (by kernel_rfl) ?_
           refine hK165 _ _ ?_
           refine W.cond_true true (by kernel_rfl) rfl ?_
           refine W.sr fun K184 hK184 => ?_
           refine zE 1 (hK184 _ _ ?_)
           refine W.ret (ret_seq (ret_block (ret_seq (ret_seq (ret_block (ret_seq (ret_block (ret_seq (ret_seq (ret_block (ret_seq ?_)))))))))))
           have hs185 := St.tk0 hs166
           refine ret_of (.bool false) (by kernel_rfl) ⟨_, ⟨congrArg Value.bool (some_inj hm), rfl⟩, hs185⟩
          ·
           have h183p : ¬ ((q145.getD ((r96.getD p146.toNat 0).toNat) false) = true) := ne_true_of_eq_false h183
           replace hm := ite_no hm h183p
           refine any_set 240 (v := .bool false) (eq_bool_of (by kernel_rfl) h183) ?_
           refine any_set 241 (v := .bool false) (eq_bool_of (by kernel_rfl) h183) ?_
           refine any_set 242 (v := .bool false) (eq_bool_of (by kernel_rfl) h183) ?_
           refine any_val (v := (.pointer (some ⟨b59, 0, none⟩))) (v' := (.pointer (some ⟨b59, 0, none⟩))) 23 (by kernel_rfl) (fun _ => by kernel_rfl) rfl hs166 ?_
           refine any_val (v := (.slice a94 r96.length c95)) (v' := (.slice a94 r96.length c95)) 24 (by kernel_rfl) (fun _ => by kernel_rfl) rfl hs166 ?_
           refine any_val (v := (.int .i64 p146)) (v' := (.int .i64 p146)) 25 (by kernel_rfl) (fun _ => by kernel_rfl) rfl hs166 ?_
           obtain ⟨h187, hm⟩ := need_some hm
           have hk186 := lt_toNat h187
           refine any_R 26 (by kernel_rfl) (fun _ hS_ => runs_index (a := a94) (n := r96.length) (z := p146) (size := 1) p146.toNat (nat_of h187.1) hk186 (kInt.addr (St.kcells kInt hs166 5 rfl) hk186) (by kernel_rfl)) hs166 ?_
           refine any_R 27 (by kernel_rfl) (fun _ hS_ => runs_load (ad := ((adr a94 (p146.toNat * 1)).add 0)) (v := (.int .i64 (r96.getD p146.toNat 0))) (by kernel_rfl) (kInt.at (St.kcells kInt hS_ 5 rfl) hk186 0 0 rfl)) hs166 ?_
           refine any_step 28 (by kernel_rfl) (by kernel_rfl) ?_
           obtain ⟨r188, h189, hm⟩ := bind_some hm
           refine zC00 hs166 (aused_walk (hab := (hs166.heapAt 4 rfl)) (hib := (hs166.heapAt 2 rfl)) (hbb := (hs166.heapAt 3 rfl)) (hv := (hs166.entAt 1 rfl viewA_at)) (hm := h189) B _) fun w190 hs192 => ?_
           refine ops_done (by kernel_rfl) ⟨hs192, ?_⟩
           refine any_val (v := (.bool (!r188))) (v' := (.bool (!r188))) 29 (by kernel_rfl) (fun _ => by kernel_rfl) rfl hs192 ?_
           refine any_val (v := (.bool (!r188))) (v' := (.bool (!r188))) 30 (by kernel_rfl) (fun _ => by kernel_rfl) rfl hs192 ?_
           refine any_done (by kernel_rfl) ?_
           refine hK165 _ _ ?_
           refine W.cond (!r188) (by kernel_rfl) (fun h193 => ?_) (fun h193 => ?_)
           rotate_left
           ·
            have h193p : r188 = true := (bnot_false h193)
            replace hm := ite_yes hm h193p
            refine W.skip ?_
            refine hK164 _ _ ?_
            refine W.region ?_
            refine zR 2 ?_
            obtain ⟨h195, hm⟩ := need_some hm
            have hk194 := lt_toNat h195
            refine ops_R (runs_index (a := a94) (n := r96.length) (z := p146) (size := 1) p146.toNat (nat_of h195.1) hk194 (kInt.addr (St.kcells kInt hs192 5 rfl) hk194) (by kernel_rfl)) ?_
            refine zL ((adr a94 (p146.toNat * 1)).add 0) (.int .i64 (r96.getD p146.toNat 0)) (kInt.at (St.kcells kInt hs192 5 rfl) hk194 0 0 rfl) ?_
            obtain ⟨h198, hm⟩ := need_some hm
            have hk196 : (r96.getD p146.toNat 0).toNat < 64 := by omega
            obtain ⟨h199, hm⟩ := need_some hm
            have hl197 : (r96.getD p146.toNat 0).toNat < q145.length := by omega
            refine ops_R (v := .pointer (some (adr (some ⟨b109, 0, none⟩) (((r96.getD p146.toNat 0).toNat) * 1)))) (runs_indexA (ad := ⟨b109, 0, none⟩) (n := 64) (z := (r96.getD p146.toNat 0)) (size := 1) ((r96.getD p146.toNat 0).toNat) (nat_of h198.1) hk196 (by kernel_rfl)) ?_
            have hs202 := St.f6 hs192
            refine ops_storeArr kBool (j := 0) (vs := [(.bool true)]) false true hs202 hl197 (Nat.le_of_ble_eq_true rfl) rfl rfl (by kernel_rfl) (fun w200 hs201 => ?_)
            refine zD ?_
            refine normal_block ?_
            refine hK163 _ _ ?_
            refine W.region ?_
            refine zR 1 ?_
            obtain ⟨h203, hm⟩ := need_some hm
            refine zI _ (wrap_i64 h203.1 h203.2) ?_
            refine zE 1 ?_
            have hs204 := St.f8 hs201
            have hs205 := St.f8 hs204
            have hs206 := St.f2 hs205
            have hs207 := St.f8 hs206
            have hs208 := St.f8 hs207
            have hs209 := St.f8 hs208
            have hs210 := St.f8 hs209
            have hs211 := St.f8 hs210
            have hs212 := St.f8 hs211
            refine loopAt_next ?_
            exact ih148 ((q145.set ((r96.getD p146.toNat 0).toNat) true), (p146 + 1)) _ _ ⟨slots_intro _ (by kernel_rfl), hs212⟩ hm
           ·
            have h193p : ¬ (r188 = true) := ne_true_of_eq_false (bnot_true h193)
            replace hm := ite_no hm h193p
            refine W.sr fun K213 hK213 => ?_
            refine zE 1 (hK213 _ _ ?_)
            refine W.ret (ret_seq (ret_block (ret_seq (ret_seq (ret_block (ret_seq (ret_block (ret_seq (ret_seq (ret_block (ret_seq ?_)))))))))))
            have hs214 := St.tk0 hs192
            refine ret_of (.bool false) (by kernel_rfl) ⟨_, ⟨congrArg Value.bool (some_inj hm), rfl⟩, hs214⟩
       ·
        obtain ⟨h162p, hm⟩ := iN hm h162
        refine W.exit (exit_seq (exit_seq (exit_here ?_)))
        exact ⟨q145, slots_intro _ (by kernel_rfl), hs150, hm⟩
     ·
      refine W.sr fun K215 hK215 => ?_
      refine zR 2 ?_
      obtain ⟨h217, hm⟩ := need_some hm
      have hk216 := lt_toNat h217
      refine ops_R (runs_index (a := sa) (n := ss.length) (z := p34) (size := 3) p34.toNat (nat_of h217.1) hk216 (kSt13.addr (hs89.oldCells hst) hk216) (by kernel_rfl)) ?_
      refine zR 1 ?_
      refine zL ((adr sa (p34.toNat * 3)).add 0) (.int .u8 ((ss.getD p34.toNat dSt13).c0)) (kSt13.at (hs89.oldCells hst) hk216 dSt13 0 rfl) ?_
      refine zE 1 (hK215 _ _ ?_)
      refine W.block ?_
      refine W.sr fun K218 hK218 => ?_
      refine zE 2 (hK218 _ _ ?_)
      refine W.cond (decide (((ss.getD p34.toNat dSt13).c0).tmod 3 = 0)) (by kernel_rfl) (fun h219 => ?_) (fun h219 => ?_)
      ·
       obtain ⟨h219p, hm⟩ := iY hm h219
       refine W.sr fun K220 hK220 => ?_
       refine zR 2 ?_
       obtain ⟨r221, h222, hm⟩ := bind_some hm
       have hs223 := St.f4 hs89
       have hs224 := St.f4 hs223
       refine zC22 hs224 (bTake_walk (mb := b52) (vb := b45) (k_ := r70) (img := q33) (l := []) (gw := 1) (gi := (2 + 0 % 20)) (gb := (2 + m_ % 60)) (n_ := 1) (hG := hG) (hT := (hs89.oldCells hT)) (hm := h222) B _) fun w225 hs227 => ?_
       refine zE 5 (hK220 _ _ ?_)
       refine W.sr fun K228 hK228 => ?_
       refine zR 1 ?_
       obtain ⟨r229, h230, hm⟩ := bind_some hm
       refine zC00 hs227 (afree_walk (hab := (hs227.heapAt 2 rfl)) (hib := (hs227.heapAt 3 rfl)) (hbb := (hs227.heapAt 4 rfl)) (hv := (hs227.entAt 1 rfl viewA_at)) (hm := h230) B _) fun w231 hs233 => ?_
       refine zE 5 (hK228 _ _ ?_)
       refine W.seq_join (fun s_ w_ => (∃ us, s_ = slots 279 [(1, (.slice sa ss.length sc)), (5, (.pointer (some ⟨b19, 0, none⟩))), (7, (.int .i64 p34)), (8, (.pointer (some ⟨b45, 0, none⟩))), (9, (.pointer (some ⟨b52, 0, none⟩))), (11, (.pointer (some ⟨b59, 0, none⟩))), (15, (.int .i64 r79.1)), (19, (.int .i64 r221.1)), (20, (.int .i64 r221.2.1))] us) ∧ St B w [] w_ [blk b19 (.cells [(.int .i64 1), (.int .i64 (2 + 0 % 20)), (.int .i64 (2 + m_ % 60))].toArray 23 (0, 0)), viewA (ptr b45) q33 r221.2.2, blk b52 (.cells [(.pointer (some ⟨b45, 0, none⟩)), (.int .i64 1), (.int .i64 (2 + 0 % 20)), (.int .i64 (2 + m_ % 60)), (.int .i64 1)].toArray 85 (0, 0)), blk b60 (.cells [(.pointer (some ⟨b45, 0, none⟩)), (.int .i64 (placeOf 6 1 (2 + 0 % 20) (2 + m_ % 60) 0)), (.int .i64 (2 + 0 % 20))].toArray 136 (0, 0)), blk b61 (.cells [(.pointer (some ⟨b45, 0, none⟩)), (.int .i64 (placeOf 7 1 (2 + 0 % 20) (2 + m_ % 60) 0)), (.int .i64 (2 + m_ % 60))].toArray 136 (0, 0)), blk b59 (.cells [(.pointer (some ⟨b45, 0, none⟩)), (.int .i64 1), (.int .i64 (2 + 0 % 20)), (.int .i64 (2 + m_ % 60)), (.pointer (some ⟨b60, 0, none⟩)), (.int .i64 (2 + 0 % 20)), (.pointer (some ⟨b61, 0, none⟩)), (.int .i64 (2 + m_ % 60))].toArray 114 (0, 0)), kU64.row m31 m32 q33] ∧ blocksonce_J5 m_ k35 q33 p34 r79 r221 = some true) ?_ ?_
       ·
        rintro _ w234 ⟨⟨us, rfl⟩, hs235, hm⟩
        unfold blocksonce_J5 at hm
        refine W.sr fun K236 hK236 => ?_
        refine zE 1 (hK236 _ _ ?_)
        refine W.block ?_
        refine W.loop_iter (G := Int) (σ := Int) (fun | p237 => p237) (fun | p237, s_, w_ => (∃ us, s_ = slots 279 [(1, (.slice sa ss.length sc)), (5, (.pointer (some ⟨b19, 0, none⟩))), (7, (.int .i64 p34)), (8, (.pointer (some ⟨b45, 0, none⟩))), (9, (.pointer (some ⟨b52, 0, none⟩))), (11, (.pointer (some ⟨b59, 0, none⟩))), (15, (.int .i64 r79.1)), (19, (.int .i64 r221.1)), (20, (.int .i64 r221.2.1)), (23, (.int .i64 p237))] us) ∧ St B w [] w_ [blk b19 (.cells [(.int .i64 1), (.int .i64 (2 + 0 % 20)), (.int .i64 (2 + m_ % 60))].toArray 23 (0, 0)), viewA (ptr b45) q33 r221.2.2, blk b52 (.cells [(.pointer (some ⟨b45, 0, none⟩)), (.int .i64 1), (.int .i64 (2 + 0 % 20)), (.int .i64 (2 + m_ % 60)), (.int .i64 1)].toArray 85 (0, 0)), blk b60 (.cells [(.pointer (some ⟨b45, 0, none⟩)), (.int .i64 (placeOf 6 1 (2 + 0 % 20) (2 + m_ % 60) 0)), (.int .i64 (2 + 0 % 20))].toArray 136 (0, 0)), blk b61 (.cells [(.pointer (some ⟨b45, 0, none⟩)), (.int .i64 (placeOf 7 1 (2 + 0 % 20) (2 + m_ % 60) 0)), (.int .i64 (2 + m_ % 60))].toArray 136 (0, 0)), blk b59 (.cells [(.pointer (some ⟨b45, 0, none⟩)), (.int .i64 1), (.int .i64 (2 + 0 % 20)), (.int .i64 (2 + m_ % 60)), (.pointer (some ⟨b60, 0, none⟩)), (.int .i64 (2 + 0 % 20)), (.pointer (some ⟨b61, 0, none⟩)), (.int .i64 (2 + m_ % 60))].toArray 114 (0, 0)), kU64.row m31 m32 q33]) 0 ⟨slots_intro _ (by kernel_rfl), hs235⟩ hm ?_
        rintro k238 ih239 p237 _ w240 ⟨⟨us, rfl⟩, hs241⟩ hm
        replace hm : blocksonce_B1 m_ k35 q33 p34 r79 r221 k238 p237 = some true := hm
        unfold blocksonce_B1 at hm
        refine W.seq fun K242 hK242 => ?_
        refine W.sr fun K243 hK243 => ?_
        refine zR 3 ?_
        rcases Bool.eq_false_or_eq_true (decide (p237 < 8)) with h244 | h244
        ·
         obtain ⟨h244p, hm⟩ := iY hm h244
         refine zS 182 h244 ?_
         refine zS 181 h244 ?_
         refine zR 4 ?_
         rcases Bool.eq_false_or_eq_true (decide (r221.2.1 = 0)) with h245 | h245
         ·
          obtain ⟨h245p, hm⟩ := iY hm h245
          refine zS 186 h245 ?_
          refine zS 184 h245 ?_
          refine zS 185 h245 ?_
          refine zE 3 (hK243 _ _ ?_)
          refine W.cond (decide (r79.1 = 0)) (by kernel_rfl) (fun h246 => ?_) (fun h246 => ?_)
          ·
           obtain ⟨h246p, hm⟩ := iY hm h246
           refine W.skip ?_
           refine hK242 _ _ ?_
           refine W.seq fun K247 hK247 => ?_
           refine W.block ?_
           refine W.sr fun K248 hK248 => ?_
           refine zR 1 ?_
           refine ops_R (runs_loadAgg (ad := ⟨b19, 0, none⟩) (cs := [(.int .i64 1), (.int .i64 (2 + 0 % 20)), (.int .i64 (2 + m_ % 60))]) (by kernel_rfl) (cells_sub (hs241.heapAt 0 rfl) rfl)) ?_
           refine zR 1 ?_
           refine zC00 hs241 (blockat_spec (gw := 1) (gi := (2 + 0 % 20)) (gb := (2 + m_ % 60)) (n_ := r221.1) B _) fun w249 hs251 => ?_
           refine zR 1 ?_
           obtain ⟨h252, hm⟩ := need_some hm
           refine zI _ (wrap_i64 h252.1 h252.2) ?_
           refine zC00 hs251 (get_spec (at_ := ((placeOf 9 1 (2 + 0 % 20) (2 + m_ % 60) r221.1) + p237)) (hv := (hs251.entAt 1 rfl viewA_at)) B _) fun w253 hs255 => ?_
           refine zE 1 (hK248 _ _ ?_)
           refine W.cond (!decide ((vget q33 r221.2.2 ((placeOf 9 1 (2 + 0 % 20) (2 + m_ % 60) r221.1) + p237)) = 0)) (by kernel_rfl) (fun h256 => ?_) (fun h256 => ?_)
           rotate_left
           ·
            have h256p : (vget q33 r221.2.2 ((placeOf 9 1 (2 + 0 % 20) (2 + m_ % 60) r221.1) + p237)) = 0 := of_decide_eq_true (bnot_false h256)
            replace hm := ite_yes hm h256p
            refine W.skip ?_
            refine normal_block ?_
            refine hK247 _ _ ?_
            refine W.region ?_
            refine zR 1 ?_
            obtain ⟨h257, hm⟩ := need_some hm
            refine zI _ (wrap_i64 h257.1 h257.2) ?_
            refine zE 1 ?_
            refine loopAt_next ?_
            exact ih239 (p237 + 1) _ _ ⟨slots_intro _ (by kernel_rfl), hs255⟩ hm
           ·
            have h256p : ¬ ((vget q33 r221.2.2 ((placeOf 9 1 (2 + 0 % 20) (2 + m_ % 60) r221.1) + p237)) = 0) := of_decide_eq_false (bnot_true h256)
            replace hm := ite_no hm h256p
            refine W.sr fun K258 hK258 => ?_
            refine zE 1 (hK258 _ _ ?_)
            refine W.ret (ret_block (ret_seq (ret_seq (ret_block (ret_block (ret_seq (ret_block (ret_seq (ret_seq (ret_block (ret_seq ?_)))))))))))
            have hs259 := St.tk0 hs255
            refine ret_of (.bool false) (by kernel_rfl) ⟨_, ⟨congrArg Value.bool (some_inj hm), rfl⟩, hs259⟩
          ·
           obtain ⟨h246p, hm⟩ := iN hm h246
           refine W.exit (exit_seq (exit_seq (exit_here ?_)))
           refine normal_block ?_
           exact ⟨r221.2.2, slots_intro _ (by kernel_rfl), hs241, hm⟩
         ·
          obtain ⟨h245p, hm⟩ := iN hm h245
          refine zS 186 h245 ?_
          refine zS 184 h245 ?_
          refine zS 185 h245 ?_
          refine zE 3 (hK243 _ _ ?_)
          refine W.cond_false false (by kernel_rfl) rfl ?_
          refine W.exit (exit_seq (exit_seq (exit_here ?_)))
          refine normal_block ?_
          exact ⟨r221.2.2, slots_intro _ (by kernel_rfl), hs241, hm⟩
        ·
         obtain ⟨h244p, hm⟩ := iN hm h244
         refine zS 182 h244 ?_
         refine zS 181 h244 ?_
         refine zE 7 (hK243 _ _ ?_)
         refine W.cond_false false (by kernel_rfl) rfl ?_
         refine W.exit (exit_seq (exit_seq (exit_here ?_)))
         refine normal_block ?_
         exact ⟨r221.2.2, slots_intro _ (by kernel_rfl), hs241, hm⟩
       ·
        refine W.sr fun K260 hK260 => ?_
        refine zR 7 ?_
        rcases Bool.eq_false_or_eq_true (!((decide (r221.2.1 = 7)) == (decide (r73 > r85.2)))) with h261 | h261
        rotate_left
        ·
         have h261p : ((r221.2.1 = 7) ↔ (r73 > r85.2)) := beq_yes decide_eq_true_iff decide_eq_true_iff (bnot_false h261)
         replace hm := ite_yes hm h261p
         refine zS 133 h261 ?_
         refine zS 132 h261 ?_
         refine zR 3 ?_
         rcases Bool.eq_false_or_eq_true (!decide (r221.2.1 = 0)) with h262 | h262
         rotate_left
         ·
          have h262p : r221.2.1 = 0 := of_decide_eq_true (bnot_false h262)
          replace hm := ite_yes hm h262p
          refine zS 136 h262 ?_
          refine zS 135 h262 ?_
          refine zR 8 ?_
          rcases Bool.eq_false_or_eq_true (decide (r221.2.1 = 7)) with h263 | h263
          ·
           obtain ⟨h263p, hm⟩ := iY hm h263
           refine zS 144 h263 ?_
           refine zS 128 h263 ?_
           refine zS 143 h263 ?_
           refine zR 6 ?_
           rcases Bool.eq_false_or_eq_true (!decide (r229.2 = r85.2)) with h264 | h264
           rotate_left
           ·
            have h264p : r229.2 = r85.2 := of_decide_eq_true (bnot_false h264)
            replace hm := ite_yes hm h264p
            refine zS 150 h264 ?_
            refine zS 147 h264 ?_
            refine zS 148 h264 ?_
            refine zS 149 h264 ?_
            refine zR 3 ?_
            rcases Bool.eq_false_or_eq_true (decide (r221.2.1 = 0)) with h265 | h265
            ·
             obtain ⟨h265p, hm⟩ := iY hm h265
             refine zS 153 h265 ?_
             refine zS 152 h265 ?_
             refine zR 3 ?_
             obtain ⟨h266, hm⟩ := need_some hm
             refine zI _ (wrap_i64 h266.1 h266.2) ?_
             refine zR 2 ?_
             rcases Bool.eq_false_or_eq_true (!decide (r229.2 = (r85.2 - r73))) with h267 | h267
             rotate_left
             ·
              have h267p : r229.2 = (r85.2 - r73) := of_decide_eq_true (bnot_false h267)
              replace hm := ite_yes hm h267p
              refine zS 159 h267 ?_
              refine zS 158 h267 ?_
              refine zR 4 ?_
              rcases Bool.eq_false_or_eq_true (decide (r221.1 < 1)) with h268 | h268
              ·
               obtain ⟨h268p, hm⟩ := iY hm h268
               refine zS 163 h268 ?_
               refine zS 161 h268 ?_
               refine zS 162 h268 ?_
               refine zE 16 (hK260 _ _ ?_)
               refine W.cond_true true (by kernel_rfl) rfl ?_
               refine W.sr fun K269 hK269 => ?_
               refine zE 1 (hK269 _ _ ?_)
               refine W.ret (ret_seq (ret_block (ret_seq (ret_block (ret_seq (ret_seq (ret_block (ret_seq ?_))))))))
               have hs270 := St.tk0 hs233
               refine ret_of (.bool false) (by kernel_rfl) ⟨_, ⟨congrArg Value.bool (some_inj hm), rfl⟩, hs270⟩
              ·
               obtain ⟨h268p, hm⟩ := iN hm h268
               refine zS 163 h268 ?_
               refine zS 161 h268 ?_
               refine zS 162 h268 ?_
               refine zR 3 ?_
               rcases Bool.eq_false_or_eq_true (!decide (r79.1 = 0)) with h271 | h271
               rotate_left
               ·
                have h271p : r79.1 = 0 := of_decide_eq_true (bnot_false h271)
                replace hm := ite_yes hm h271p
                refine zS 166 h271 ?_
                refine zS 165 h271 ?_
                refine zR 8 ?_
                obtain ⟨r272, h273, hm⟩ := bind_some hm
                refine zC00 hs233 (aused_walk (hab := (hs233.heapAt 2 rfl)) (hib := (hs233.heapAt 3 rfl)) (hbb := (hs233.heapAt 4 rfl)) (hv := (hs233.entAt 1 rfl viewA_at)) (hm := h273) B _) fun w274 hs276 => ?_
                refine zE 4 (hK260 _ _ ?_)
                refine W.cond (!r272) (by kernel_rfl) (fun h277 => ?_) (fun h277 => ?_)
                rotate_left
                ·
                 have h277p : r272 = true := (bnot_false h277)
                 replace hm := ite_yes hm h277p
                 refine W.skip ?_
                 have hs278 := St.f6 hs276
                 have hs279 := St.f3 hs278
                 have hs280 := St.f5 hs279
                 have hs281 := St.f5 hs280
                 have hs282 := St.f4 hs281
                 have hs283 := St.f5 hs282
                 have hs284 := St.f6 hs283
                 exact ⟨slots_intro _ (by kernel_rfl), hs284, hm⟩
                ·
                 have h277p : ¬ (r272 = true) := ne_true_of_eq_false (bnot_true h277)
                 replace hm := ite_no hm h277p
                 refine W.sr fun K285 hK285 => ?_
                 refine zE 1 (hK285 _ _ ?_)
                 refine W.ret (ret_seq (ret_block (ret_seq (ret_block (ret_seq (ret_seq (ret_block (ret_seq ?_))))))))
                 have hs286 := St.tk0 hs276
                 refine ret_of (.bool false) (by kernel_rfl) ⟨_, ⟨congrArg Value.bool (some_inj hm), rfl⟩, hs286⟩
               ·
                have h271p : ¬ (r79.1 = 0) := of_decide_eq_false (bnot_true h271)
                replace hm := ite_no hm h271p
                refine zS 166 h271 ?_
                refine zS 165 h271 ?_
                refine zR 6 ?_
                rcases Bool.eq_false_or_eq_true (!decide (r221.1 = r79.1)) with h287 | h287
                rotate_left
                ·
                 have h287p : r221.1 = r79.1 := of_decide_eq_true (bnot_false h287)
                 replace hm := ite_yes hm h287p
                 refine zS 172 h287 ?_
                 refine zS 169 h287 ?_
                 refine zS 170 h287 ?_
                 refine zS 171 h287 ?_
                 refine zR 2 ?_
                 obtain ⟨r288, h289, hm⟩ := bind_some hm
                 refine zC00 hs233 (aused_walk (hab := (hs233.heapAt 2 rfl)) (hib := (hs233.heapAt 3 rfl)) (hbb := (hs233.heapAt 4 rfl)) (hv := (hs233.entAt 1 rfl viewA_at)) (hm := h289) B _) fun w290 hs292 => ?_
                 refine zE 4 (hK260 _ _ ?_)
                 refine W.cond (!r288) (by kernel_rfl) (fun h293 => ?_) (fun h293 => ?_)
                 rotate_left
                 ·
                  have h293p : r288 = true := (bnot_false h293)
                  replace hm := ite_yes hm h293p
                  refine W.skip ?_
                  have hs294 := St.f6 hs292
                  have hs295 := St.f3 hs294
                  have hs296 := St.f5 hs295
                  have hs297 := St.f5 hs296
                  have hs298 := St.f4 hs297
                  have hs299 := St.f5 hs298
                  have hs300 := St.f6 hs299
                  exact ⟨slots_intro _ (by kernel_rfl), hs300, hm⟩
                 ·
                  have h293p : ¬ (r288 = true) := ne_true_of_eq_false (bnot_true h293)
                  replace hm := ite_no hm h293p
                  refine W.sr fun K301 hK301 => ?_
                  refine zE 1 (hK301 _ _ ?_)
                  refine W.ret (ret_seq (ret_block (ret_seq (ret_block (ret_seq (ret_seq (ret_block (ret_seq ?_))))))))
                  have hs302 := St.tk0 hs292
                  refine ret_of (.bool false) (by kernel_rfl) ⟨_, ⟨congrArg Value.bool (some_inj hm), rfl⟩, hs302⟩
                ·
                 have h287p : ¬ (r221.1 = r79.1) := of_decide_eq_false (bnot_true h287)
                 replace hm := ite_no hm h287p
                 refine zS 172 h287 ?_
                 refine zS 169 h287 ?_
                 refine zS 170 h287 ?_
                 refine zS 171 h287 ?_
                 refine zE 7 (hK260 _ _ ?_)
                 refine W.cond_true true (by kernel_rfl) rfl ?_
                 refine W.sr fun K303 hK303 => ?_
                 refine zE 1 (hK303 _ _ ?_)
                 refine W.ret (ret_seq (ret_block (ret_seq (ret_block (ret_seq (ret_seq (ret_block (ret_seq ?_))))))))
                 have hs304 := St.tk0 hs233
                 refine ret_of (.bool false) (by kernel_rfl) ⟨_, ⟨congrArg Value.bool (some_inj hm), rfl⟩, hs304⟩
             ·
              have h267p : ¬ (r229.2 = (r85.2 - r73)) := of_decide_eq_false (bnot_true h267)
              replace hm := ite_no hm h267p
              refine zS 159 h267 ?_
              refine zS 158 h267 ?_
              refine zE 20 (hK260 _ _ ?_)
              refine W.cond_true true (by kernel_rfl) rfl ?_
              refine W.sr fun K305 hK305 => ?_
              refine zE 1 (hK305 _ _ ?_)
              refine W.ret (ret_seq (ret_block (ret_seq (ret_block (ret_seq (ret_seq (ret_block (ret_seq ?_))))))))
              have hs306 := St.tk0 hs233
              refine ret_of (.bool false) (by kernel_rfl) ⟨_, ⟨congrArg Value.bool (some_inj hm), rfl⟩, hs306⟩
            ·
             obtain ⟨h265p, hm⟩ := iN hm h265
             refine zS 153 h265 ?_
             refine zS 152 h265 ?_
             refine zE 26 (hK260 _ _ ?_)
             refine W.cond_false false (by kernel_rfl) rfl ?_
             refine W.skip ?_
             have hs307 := St.f6 hs233
             have hs308 := St.f3 hs307
             have hs309 := St.f5 hs308
             have hs310 := St.f5 hs309
             have hs311 := St.f4 hs310
             have hs312 := St.f5 hs311
             have hs313 := St.f6 hs312
             exact ⟨slots_intro _ (by kernel_rfl), hs313, hm⟩
           ·
            have h264p : ¬ (r229.2 = r85.2) := of_decide_eq_false (bnot_true h264)
            replace hm := ite_no hm h264p
            refine zS 150 h264 ?_
            refine zS 147 h264 ?_
            refine zS 148 h264 ?_
            refine zS 149 h264 ?_
            refine zE 29 (hK260 _ _ ?_)
            refine W.cond_true true (by kernel_rfl) rfl ?_
            refine W.sr fun K314 hK314 => ?_
            refine zE 1 (hK314 _ _ ?_)
            refine W.ret (ret_seq (ret_block (ret_seq (ret_block (ret_seq (ret_seq (ret_block (ret_seq ?_))))))))
            have hs315 := St.tk0 hs233
            refine ret_of (.bool false) (by kernel_rfl) ⟨_, ⟨congrArg Value.bool (some_inj hm), rfl⟩, hs315⟩
          ·
           obtain ⟨h263p, hm⟩ := iN hm h263
           refine zS 144 h263 ?_
           refine zS 128 h263 ?_
           refine zS 143 h263 ?_
           refine zR 9 ?_
           rcases Bool.eq_false_or_eq_true (decide (r221.2.1 = 0)) with h316 | h316
           ·
            obtain ⟨h316p, hm⟩ := iY hm h316
            refine zS 153 h316 ?_
            refine zS 152 h316 ?_
            refine zR 3 ?_
            obtain ⟨h317, hm⟩ := need_some hm
            refine zI _ (wrap_i64 h317.1 h317.2) ?_
            refine zR 2 ?_
            rcases Bool.eq_false_or_eq_true (!decide (r229.2 = (r85.2 - r73))) with h318 | h318
            rotate_left
            ·
             have h318p : r229.2 = (r85.2 - r73) := of_decide_eq_true (bnot_false h318)
             replace hm := ite_yes hm h318p
             refine zS 159 h318 ?_
             refine zS 158 h318 ?_
             refine zR 4 ?_
             rcases Bool.eq_false_or_eq_true (decide (r221.1 < 1)) with h319 | h319
             ·
              obtain ⟨h319p, hm⟩ := iY hm h319
              refine zS 163 h319 ?_
              refine zS 161 h319 ?_
              refine zS 162 h319 ?_
              refine zE 16 (hK260 _ _ ?_)
              refine W.cond_true true (by kernel_rfl) rfl ?_
              refine W.sr fun K320 hK320 => ?_
              refine zE 1 (hK320 _ _ ?_)
              refine W.ret (ret_seq (ret_block (ret_seq (ret_block (ret_seq (ret_seq (ret_block (ret_seq ?_))))))))
              have hs321 := St.tk0 hs233
              refine ret_of (.bool false) (by kernel_rfl) ⟨_, ⟨congrArg Value.bool (some_inj hm), rfl⟩, hs321⟩
             ·
              obtain ⟨h319p, hm⟩ := iN hm h319
              refine zS 163 h319 ?_
              refine zS 161 h319 ?_
              refine zS 162 h319 ?_
              refine zR 3 ?_
              rcases Bool.eq_false_or_eq_true (!decide (r79.1 = 0)) with h322 | h322
              rotate_left
              ·
               have h322p : r79.1 = 0 := of_decide_eq_true (bnot_false h322)
               replace hm := ite_yes hm h322p
               refine zS 166 h322 ?_
               refine zS 165 h322 ?_
               refine zR 8 ?_
               obtain ⟨r323, h324, hm⟩ := bind_some hm
               refine zC00 hs233 (aused_walk (hab := (hs233.heapAt 2 rfl)) (hib := (hs233.heapAt 3 rfl)) (hbb := (hs233.heapAt 4 rfl)) (hv := (hs233.entAt 1 rfl viewA_at)) (hm := h324) B _) fun w325 hs327 => ?_
               refine zE 4 (hK260 _ _ ?_)
               refine W.cond (!r323) (by kernel_rfl) (fun h328 => ?_) (fun h328 => ?_)
               rotate_left
               ·
                have h328p : r323 = true := (bnot_false h328)
                replace hm := ite_yes hm h328p
                refine W.skip ?_
                have hs329 := St.f6 hs327
                have hs330 := St.f3 hs329
                have hs331 := St.f5 hs330
                have hs332 := St.f5 hs331
                have hs333 := St.f4 hs332
                have hs334 := St.f5 hs333
                have hs335 := St.f6 hs334
                exact ⟨slots_intro _ (by kernel_rfl), hs335, hm⟩
               ·
                have h328p : ¬ (r323 = true) := ne_true_of_eq_false (bnot_true h328)
                replace hm := ite_no hm h328p
                refine W.sr fun K336 hK336 => ?_
                refine zE 1 (hK336 _ _ ?_)
                refine W.ret (ret_seq (ret_block (ret_seq (ret_block (ret_seq (ret_seq (ret_block (ret_seq ?_))))))))
                have hs337 := St.tk0 hs327
                refine ret_of (.bool false) (by kernel_rfl) ⟨_, ⟨congrArg Value.bool (some_inj hm), rfl⟩, hs337⟩
              ·
               have h322p : ¬ (r79.1 = 0) := of_decide_eq_false (bnot_true h322)
               replace hm := ite_no hm h322p
               refine zS 166 h322 ?_
               refine zS 165 h322 ?_
               refine zR 6 ?_
               rcases Bool.eq_false_or_eq_true (!decide (r221.1 = r79.1)) with h338 | h338
               rotate_left
               ·
                have h338p : r221.1 = r79.1 := of_decide_eq_true (bnot_false h338)
                replace hm := ite_yes hm h338p
                refine zS 172 h338 ?_
                refine zS 169 h338 ?_
                refine zS 170 h338 ?_
                refine zS 171 h338 ?_
                refine zR 2 ?_
                obtain ⟨r339, h340, hm⟩ := bind_some hm
                refine zC00 hs233 (aused_walk (hab := (hs233.heapAt 2 rfl)) (hib := (hs233.heapAt 3 rfl)) (hbb := (hs233.heapAt 4 rfl)) (hv := (hs233.entAt 1 rfl viewA_at)) (hm := h340) B _) fun w341 hs343 => ?_
                refine zE 4 (hK260 _ _ ?_)
                refine W.cond (!r339) (by kernel_rfl) (fun h344 => ?_) (fun h344 => ?_)
                rotate_left
                ·
                 have h344p : r339 = true := (bnot_false h344)
                 replace hm := ite_yes hm h344p
                 refine W.skip ?_
                 have hs345 := St.f6 hs343
                 have hs346 := St.f3 hs345
                 have hs347 := St.f5 hs346
                 have hs348 := St.f5 hs347
                 have hs349 := St.f4 hs348
                 have hs350 := St.f5 hs349
                 have hs351 := St.f6 hs350
                 exact ⟨slots_intro _ (by kernel_rfl), hs351, hm⟩
                ·
                 have h344p : ¬ (r339 = true) := ne_true_of_eq_false (bnot_true h344)
                 replace hm := ite_no hm h344p
                 refine W.sr fun K352 hK352 => ?_
                 refine zE 1 (hK352 _ _ ?_)
                 refine W.ret (ret_seq (ret_block (ret_seq (ret_block (ret_seq (ret_seq (ret_block (ret_seq ?_))))))))
                 have hs353 := St.tk0 hs343
                 refine ret_of (.bool false) (by kernel_rfl) ⟨_, ⟨congrArg Value.bool (some_inj hm), rfl⟩, hs353⟩
               ·
                have h338p : ¬ (r221.1 = r79.1) := of_decide_eq_false (bnot_true h338)
                replace hm := ite_no hm h338p
                refine zS 172 h338 ?_
                refine zS 169 h338 ?_
                refine zS 170 h338 ?_
                refine zS 171 h338 ?_
                refine zE 7 (hK260 _ _ ?_)
                refine W.cond_true true (by kernel_rfl) rfl ?_
                refine W.sr fun K354 hK354 => ?_
                refine zE 1 (hK354 _ _ ?_)
                refine W.ret (ret_seq (ret_block (ret_seq (ret_block (ret_seq (ret_seq (ret_block (ret_seq ?_))))))))
                have hs355 := St.tk0 hs233
                refine ret_of (.bool false) (by kernel_rfl) ⟨_, ⟨congrArg Value.bool (some_inj hm), rfl⟩, hs355⟩
            ·
             have h318p : ¬ (r229.2 = (r85.2 - r73)) := of_decide_eq_false (bnot_true h318)
             replace hm := ite_no hm h318p
             refine zS 159 h318 ?_
             refine zS 158 h318 ?_
             refine zE 20 (hK260 _ _ ?_)
             refine W.cond_true true (by kernel_rfl) rfl ?_
             refine W.sr fun K356 hK356 => ?_
             refine zE 1 (hK356 _ _ ?_)
             refine W.ret (ret_seq (ret_block (ret_seq (ret_block (ret_seq (ret_seq (ret_block (ret_seq ?_))))))))
             have hs357 := St.tk0 hs233
             refine ret_of (.bool false) (by kernel_rfl) ⟨_, ⟨congrArg Value.bool (some_inj hm), rfl⟩, hs357⟩
           ·
            obtain ⟨h316p, hm⟩ := iN hm h316
            refine zS 153 h316 ?_
            refine zS 152 h316 ?_
            refine zE 26 (hK260 _ _ ?_)
            refine W.cond_false false (by kernel_rfl) rfl ?_
            refine W.skip ?_
            have hs358 := St.f6 hs233
            have hs359 := St.f3 hs358
            have hs360 := St.f5 hs359
            have hs361 := St.f5 hs360
            have hs362 := St.f4 hs361
            have hs363 := St.f5 hs362
            have hs364 := St.f6 hs363
            exact ⟨slots_intro _ (by kernel_rfl), hs364, hm⟩
         ·
          have h262p : ¬ (r221.2.1 = 0) := of_decide_eq_false (bnot_true h262)
          replace hm := ite_no hm h262p
          refine zS 136 h262 ?_
          refine zS 135 h262 ?_
          refine zR 5 ?_
          rcases Bool.eq_false_or_eq_true (!decide (r221.2.1 = 7)) with h365 | h365
          rotate_left
          ·
           have h365p : r221.2.1 = 7 := of_decide_eq_true (bnot_false h365)
           replace hm := ite_yes hm h365p
           refine zS 141 h365 ?_
           refine zS 138 h365 ?_
           refine zS 139 h365 ?_
           refine zS 140 h365 ?_
           refine zR 3 ?_
           rcases Bool.eq_false_or_eq_true (decide (r221.2.1 = 7)) with h366 | h366
           ·
            obtain ⟨h366p, hm⟩ := iY hm h366
            refine zS 144 h366 ?_
            refine zS 128 h366 ?_
            refine zS 143 h366 ?_
            refine zR 6 ?_
            rcases Bool.eq_false_or_eq_true (!decide (r229.2 = r85.2)) with h367 | h367
            rotate_left
            ·
             have h367p : r229.2 = r85.2 := of_decide_eq_true (bnot_false h367)
             replace hm := ite_yes hm h367p
             refine zS 150 h367 ?_
             refine zS 147 h367 ?_
             refine zS 148 h367 ?_
             refine zS 149 h367 ?_
             refine zR 3 ?_
             rcases Bool.eq_false_or_eq_true (decide (r221.2.1 = 0)) with h368 | h368
             ·
              obtain ⟨h368p, hm⟩ := iY hm h368
              refine zS 153 h368 ?_
              refine zS 152 h368 ?_
              refine zR 3 ?_
              obtain ⟨h369, hm⟩ := need_some hm
              refine zI _ (wrap_i64 h369.1 h369.2) ?_
              refine zR 2 ?_
              rcases Bool.eq_false_or_eq_true (!decide (r229.2 = (r85.2 - r73))) with h370 | h370
              rotate_left
              ·
               have h370p : r229.2 = (r85.2 - r73) := of_decide_eq_true (bnot_false h370)
               replace hm := ite_yes hm h370p
               refine zS 159 h370 ?_
               refine zS 158 h370 ?_
               refine zR 4 ?_
               rcases Bool.eq_false_or_eq_true (decide (r221.1 < 1)) with h371 | h371
               ·
                obtain ⟨h371p, hm⟩ := iY hm h371
                refine zS 163 h371 ?_
                refine zS 161 h371 ?_
                refine zS 162 h371 ?_
                refine zE 16 (hK260 _ _ ?_)
                refine W.cond_true true (by kernel_rfl) rfl ?_
                refine W.sr fun K372 hK372 => ?_
                refine zE 1 (hK372 _ _ ?_)
                refine W.ret (ret_seq (ret_block (ret_seq (ret_block (ret_seq (ret_seq (ret_block (ret_seq ?_))))))))
                have hs373 := St.tk0 hs233
                refine ret_of (.bool false) (by kernel_rfl) ⟨_, ⟨congrArg Value.bool (some_inj hm), rfl⟩, hs373⟩
               ·
                obtain ⟨h371p, hm⟩ := iN hm h371
                refine zS 163 h371 ?_
                refine zS 161 h371 ?_
                refine zS 162 h371 ?_
                refine zR 3 ?_
                rcases Bool.eq_false_or_eq_true (!decide (r79.1 = 0)) with h374 | h374
                rotate_left
                ·
                 have h374p : r79.1 = 0 := of_decide_eq_true (bnot_false h374)
                 replace hm := ite_yes hm h374p
                 refine zS 166 h374 ?_
                 refine zS 165 h374 ?_
                 refine zR 8 ?_
                 obtain ⟨r375, h376, hm⟩ := bind_some hm
                 refine zC00 hs233 (aused_walk (hab := (hs233.heapAt 2 rfl)) (hib := (hs233.heapAt 3 rfl)) (hbb := (hs233.heapAt 4 rfl)) (hv := (hs233.entAt 1 rfl viewA_at)) (hm := h376) B _) fun w377 hs379 => ?_
                 refine zE 4 (hK260 _ _ ?_)
                 refine W.cond (!r375) (by kernel_rfl) (fun h380 => ?_) (fun h380 => ?_)
                 rotate_left
                 ·
                  have h380p : r375 = true := (bnot_false h380)
                  replace hm := ite_yes hm h380p
                  refine W.skip ?_
                  have hs381 := St.f6 hs379
                  have hs382 := St.f3 hs381
                  have hs383 := St.f5 hs382
                  have hs384 := St.f5 hs383
                  have hs385 := St.f4 hs384
                  have hs386 := St.f5 hs385
                  have hs387 := St.f6 hs386
                  exact ⟨slots_intro _ (by kernel_rfl), hs387, hm⟩
                 ·
                  have h380p : ¬ (r375 = true) := ne_true_of_eq_false (bnot_true h380)
                  replace hm := ite_no hm h380p
                  refine W.sr fun K388 hK388 => ?_
                  refine zE 1 (hK388 _ _ ?_)
                  refine W.ret (ret_seq (ret_block (ret_seq (ret_block (ret_seq (ret_seq (ret_block (ret_seq ?_))))))))
                  have hs389 := St.tk0 hs379
                  refine ret_of (.bool false) (by kernel_rfl) ⟨_, ⟨congrArg Value.bool (some_inj hm), rfl⟩, hs389⟩
                ·
                 have h374p : ¬ (r79.1 = 0) := of_decide_eq_false (bnot_true h374)
                 replace hm := ite_no hm h374p
                 refine zS 166 h374 ?_
                 refine zS 165 h374 ?_
                 refine zR 6 ?_
                 rcases Bool.eq_false_or_eq_true (!decide (r221.1 = r79.1)) with h390 | h390
                 rotate_left
                 ·
                  have h390p : r221.1 = r79.1 := of_decide_eq_true (bnot_false h390)
                  replace hm := ite_yes hm h390p
                  refine zS 172 h390 ?_
                  refine zS 169 h390 ?_
                  refine zS 170 h390 ?_
                  refine zS 171 h390 ?_
                  refine zR 2 ?_
                  obtain ⟨r391, h392, hm⟩ := bind_some hm
                  refine zC00 hs233 (aused_walk (hab := (hs233.heapAt 2 rfl)) (hib := (hs233.heapAt 3 rfl)) (hbb := (hs233.heapAt 4 rfl)) (hv := (hs233.entAt 1 rfl viewA_at)) (hm := h392) B _) fun w393 hs395 => ?_
                  refine zE 4 (hK260 _ _ ?_)
                  refine W.cond (!r391) (by kernel_rfl) (fun h396 => ?_) (fun h396 => ?_)
                  rotate_left
                  ·
                   have h396p : r391 = true := (bnot_false h396)
                   replace hm := ite_yes hm h396p
                   refine W.skip ?_
                   have hs397 := St.f6 hs395
                   have hs398 := St.f3 hs397
                   have hs399 := St.f5 hs398
                   have hs400 := St.f5 hs399
                   have hs401 := St.f4 hs400
                   have hs402 := St.f5 hs401
                   have hs403 := St.f6 hs402
                   exact ⟨slots_intro _ (by kernel_rfl), hs403, hm⟩
                  ·
                   have h396p : ¬ (r391 = true) := ne_true_of_eq_false (bnot_true h396)
                   replace hm := ite_no hm h396p
                   refine W.sr fun K404 hK404 => ?_
                   refine zE 1 (hK404 _ _ ?_)
                   refine W.ret (ret_seq (ret_block (ret_seq (ret_block (ret_seq (ret_seq (ret_block (ret_seq ?_))))))))
                   have hs405 := St.tk0 hs395
                   refine ret_of (.bool false) (by kernel_rfl) ⟨_, ⟨congrArg Value.bool (some_inj hm), rfl⟩, hs405⟩
                 ·
                  have h390p : ¬ (r221.1 = r79.1) := of_decide_eq_false (bnot_true h390)
                  replace hm := ite_no hm h390p
                  refine zS 172 h390 ?_
                  refine zS 169 h390 ?_
                  refine zS 170 h390 ?_
                  refine zS 171 h390 ?_
                  refine zE 7 (hK260 _ _ ?_)
                  refine W.cond_true true (by kernel_rfl) rfl ?_
                  refine W.sr fun K406 hK406 => ?_
                  refine zE 1 (hK406 _ _ ?_)
                  refine W.ret (ret_seq (ret_block (ret_seq (ret_block (ret_seq (ret_seq (ret_block (ret_seq ?_))))))))
                  have hs407 := St.tk0 hs233
                  refine ret_of (.bool false) (by kernel_rfl) ⟨_, ⟨congrArg Value.bool (some_inj hm), rfl⟩, hs407⟩
              ·
               have h370p : ¬ (r229.2 = (r85.2 - r73)) := of_decide_eq_false (bnot_true h370)
               replace hm := ite_no hm h370p
               refine zS 159 h370 ?_
               refine zS 158 h370 ?_
               refine zE 20 (hK260 _ _ ?_)
               refine W.cond_true true (by kernel_rfl) rfl ?_
               refine W.sr fun K408 hK408 => ?_
               refine zE 1 (hK408 _ _ ?_)
               refine W.ret (ret_seq (ret_block (ret_seq (ret_block (ret_seq (ret_seq (ret_block (ret_seq ?_))))))))
               have hs409 := St.tk0 hs233
               refine ret_of (.bool false) (by kernel_rfl) ⟨_, ⟨congrArg Value.bool (some_inj hm), rfl⟩, hs409⟩
             ·
              obtain ⟨h368p, hm⟩ := iN hm h368
              refine zS 153 h368 ?_
              refine zS 152 h368 ?_
              refine zE 26 (hK260 _ _ ?_)
              refine W.cond_false false (by kernel_rfl) rfl ?_
              refine W.skip ?_
              have hs410 := St.f6 hs233
              have hs411 := St.f3 hs410
              have hs412 := St.f5 hs411
              have hs413 := St.f5 hs412
              have hs414 := St.f4 hs413
              have hs415 := St.f5 hs414
              have hs416 := St.f6 hs415
              exact ⟨slots_intro _ (by kernel_rfl), hs416, hm⟩
            ·
             have h367p : ¬ (r229.2 = r85.2) := of_decide_eq_false (bnot_true h367)
             replace hm := ite_no hm h367p
             refine zS 150 h367 ?_
             refine zS 147 h367 ?_
             refine zS 148 h367 ?_
             refine zS 149 h367 ?_
             refine zE 29 (hK260 _ _ ?_)
             refine W.cond_true true (by kernel_rfl) rfl ?_
             refine W.sr fun K417 hK417 => ?_
             refine zE 1 (hK417 _ _ ?_)
             refine W.ret (ret_seq (ret_block (ret_seq (ret_block (ret_seq (ret_seq (ret_block (ret_seq ?_))))))))
             have hs418 := St.tk0 hs233
             refine ret_of (.bool false) (by kernel_rfl) ⟨_, ⟨congrArg Value.bool (some_inj hm), rfl⟩, hs418⟩
           ·
            obtain ⟨h366p, hm⟩ := iN hm h366
            refine zS 144 h366 ?_
            refine zS 128 h366 ?_
            refine zS 143 h366 ?_
            refine zR 9 ?_
            rcases Bool.eq_false_or_eq_true (decide (r221.2.1 = 0)) with h419 | h419
            ·
             obtain ⟨h419p, hm⟩ := iY hm h419
             refine zS 153 h419 ?_
             refine zS 152 h419 ?_
             refine zR 3 ?_
             obtain ⟨h420, hm⟩ := need_some hm
             refine zI _ (wrap_i64 h420.1 h420.2) ?_
             refine zR 2 ?_
             rcases Bool.eq_false_or_eq_true (!decide (r229.2 = (r85.2 - r73))) with h421 | h421
             rotate_left
             ·
              have h421p : r229.2 = (r85.2 - r73) := of_decide_eq_true (bnot_false h421)
              replace hm := ite_yes hm h421p
              refine zS 159 h421 ?_
              refine zS 158 h421 ?_
              refine zR 4 ?_
              rcases Bool.eq_false_or_eq_true (decide (r221.1 < 1)) with h422 | h422
              ·
               obtain ⟨h422p, hm⟩ := iY hm h422
               refine zS 163 h422 ?_
               refine zS 161 h422 ?_
               refine zS 162 h422 ?_
               refine zE 16 (hK260 _ _ ?_)
               refine W.cond_true true (by kernel_rfl) rfl ?_
               refine W.sr fun K423 hK423 => ?_
               refine zE 1 (hK423 _ _ ?_)
               refine W.ret (ret_seq (ret_block (ret_seq (ret_block (ret_seq (ret_seq (ret_block (ret_seq ?_))))))))
               have hs424 := St.tk0 hs233
               refine ret_of (.bool false) (by kernel_rfl) ⟨_, ⟨congrArg Value.bool (some_inj hm), rfl⟩, hs424⟩
              ·
               obtain ⟨h422p, hm⟩ := iN hm h422
               refine zS 163 h422 ?_
               refine zS 161 h422 ?_
               refine zS 162 h422 ?_
               refine zR 3 ?_
               rcases Bool.eq_false_or_eq_true (!decide (r79.1 = 0)) with h425 | h425
               rotate_left
               ·
                have h425p : r79.1 = 0 := of_decide_eq_true (bnot_false h425)
                replace hm := ite_yes hm h425p
                refine zS 166 h425 ?_
                refine zS 165 h425 ?_
                refine zR 8 ?_
                obtain ⟨r426, h427, hm⟩ := bind_some hm
                refine zC00 hs233 (aused_walk (hab := (hs233.heapAt 2 rfl)) (hib := (hs233.heapAt 3 rfl)) (hbb := (hs233.heapAt 4 rfl)) (hv := (hs233.entAt 1 rfl viewA_at)) (hm := h427) B _) fun w428 hs430 => ?_
                refine zE 4 (hK260 _ _ ?_)
                refine W.cond (!r426) (by kernel_rfl) (fun h431 => ?_) (fun h431 => ?_)
                rotate_left
                ·
                 have h431p : r426 = true := (bnot_false h431)
                 replace hm := ite_yes hm h431p
                 refine W.skip ?_
                 have hs432 := St.f6 hs430
                 have hs433 := St.f3 hs432
                 have hs434 := St.f5 hs433
                 have hs435 := St.f5 hs434
                 have hs436 := St.f4 hs435
                 have hs437 := St.f5 hs436
                 have hs438 := St.f6 hs437
                 exact ⟨slots_intro _ (by kernel_rfl), hs438, hm⟩
                ·
                 have h431p : ¬ (r426 = true) := ne_true_of_eq_false (bnot_true h431)
                 replace hm := ite_no hm h431p
                 refine W.sr fun K439 hK439 => ?_
                 refine zE 1 (hK439 _ _ ?_)
                 refine W.ret (ret_seq (ret_block (ret_seq (ret_block (ret_seq (ret_seq (ret_block (ret_seq ?_))))))))
                 have hs440 := St.tk0 hs430
                 refine ret_of (.bool false) (by kernel_rfl) ⟨_, ⟨congrArg Value.bool (some_inj hm), rfl⟩, hs440⟩
               ·
                have h425p : ¬ (r79.1 = 0) := of_decide_eq_false (bnot_true h425)
                replace hm := ite_no hm h425p
                refine zS 166 h425 ?_
                refine zS 165 h425 ?_
                refine zR 6 ?_
                rcases Bool.eq_false_or_eq_true (!decide (r221.1 = r79.1)) with h441 | h441
                rotate_left
                ·
                 have h441p : r221.1 = r79.1 := of_decide_eq_true (bnot_false h441)
                 replace hm := ite_yes hm h441p
                 refine zS 172 h441 ?_
                 refine zS 169 h441 ?_
                 refine zS 170 h441 ?_
                 refine zS 171 h441 ?_
                 refine zR 2 ?_
                 obtain ⟨r442, h443, hm⟩ := bind_some hm
                 refine zC00 hs233 (aused_walk (hab := (hs233.heapAt 2 rfl)) (hib := (hs233.heapAt 3 rfl)) (hbb := (hs233.heapAt 4 rfl)) (hv := (hs233.entAt 1 rfl viewA_at)) (hm := h443) B _) fun w444 hs446 => ?_
                 refine zE 4 (hK260 _ _ ?_)
                 refine W.cond (!r442) (by kernel_rfl) (fun h447 => ?_) (fun h447 => ?_)
                 rotate_left
                 ·
                  have h447p : r442 = true := (bnot_false h447)
                  replace hm := ite_yes hm h447p
                  refine W.skip ?_
                  have hs448 := St.f6 hs446
                  have hs449 := St.f3 hs448
                  have hs450 := St.f5 hs449
                  have hs451 := St.f5 hs450
                  have hs452 := St.f4 hs451
                  have hs453 := St.f5 hs452
                  have hs454 := St.f6 hs453
                  exact ⟨slots_intro _ (by kernel_rfl), hs454, hm⟩
                 ·
                  have h447p : ¬ (r442 = true) := ne_true_of_eq_false (bnot_true h447)
                  replace hm := ite_no hm h447p
                  refine W.sr fun K455 hK455 => ?_
                  refine zE 1 (hK455 _ _ ?_)
                  refine W.ret (ret_seq (ret_block (ret_seq (ret_block (ret_seq (ret_seq (ret_block (ret_seq ?_))))))))
                  have hs456 := St.tk0 hs446
                  refine ret_of (.bool false) (by kernel_rfl) ⟨_, ⟨congrArg Value.bool (some_inj hm), rfl⟩, hs456⟩
                ·
                 have h441p : ¬ (r221.1 = r79.1) := of_decide_eq_false (bnot_true h441)
                 replace hm := ite_no hm h441p
                 refine zS 172 h441 ?_
                 refine zS 169 h441 ?_
                 refine zS 170 h441 ?_
                 refine zS 171 h441 ?_
                 refine zE 7 (hK260 _ _ ?_)
                 refine W.cond_true true (by kernel_rfl) rfl ?_
                 refine W.sr fun K457 hK457 => ?_
                 refine zE 1 (hK457 _ _ ?_)
                 refine W.ret (ret_seq (ret_block (ret_seq (ret_block (ret_seq (ret_seq (ret_block (ret_seq ?_))))))))
                 have hs458 := St.tk0 hs233
                 refine ret_of (.bool false) (by kernel_rfl) ⟨_, ⟨congrArg Value.bool (some_inj hm), rfl⟩, hs458⟩
             ·
              have h421p : ¬ (r229.2 = (r85.2 - r73)) := of_decide_eq_false (bnot_true h421)
              replace hm := ite_no hm h421p
              refine zS 159 h421 ?_
              refine zS 158 h421 ?_
              refine zE 20 (hK260 _ _ ?_)
              refine W.cond_true true (by kernel_rfl) rfl ?_
              refine W.sr fun K459 hK459 => ?_
              refine zE 1 (hK459 _ _ ?_)
              refine W.ret (ret_seq (ret_block (ret_seq (ret_block (ret_seq (ret_seq (ret_block (ret_seq ?_))))))))
              have hs460 := St.tk0 hs233
              refine ret_of (.bool false) (by kernel_rfl) ⟨_, ⟨congrArg Value.bool (some_inj hm), rfl⟩, hs460⟩
            ·
             obtain ⟨h419p, hm⟩ := iN hm h419
             refine zS 153 h419 ?_
             refine zS 152 h419 ?_
             refine zE 26 (hK260 _ _ ?_)
             refine W.cond_false false (by kernel_rfl) rfl ?_
             refine W.skip ?_
             have hs461 := St.f6 hs233
             have hs462 := St.f3 hs461
             have hs463 := St.f5 hs462
             have hs464 := St.f5 hs463
             have hs465 := St.f4 hs464
             have hs466 := St.f5 hs465
             have hs467 := St.f6 hs466
             exact ⟨slots_intro _ (by kernel_rfl), hs467, hm⟩
          ·
           have h365p : ¬ (r221.2.1 = 7) := of_decide_eq_false (bnot_true h365)
           replace hm := ite_no hm h365p
           refine zS 141 h365 ?_
           refine zS 138 h365 ?_
           refine zS 139 h365 ?_
           refine zS 140 h365 ?_
           refine zE 38 (hK260 _ _ ?_)
           refine W.cond_true true (by kernel_rfl) rfl ?_
           refine W.sr fun K468 hK468 => ?_
           refine zE 1 (hK468 _ _ ?_)
           refine W.ret (ret_seq (ret_block (ret_seq (ret_block (ret_seq (ret_seq (ret_block (ret_seq ?_))))))))
           have hs469 := St.tk0 hs233
           refine ret_of (.bool false) (by kernel_rfl) ⟨_, ⟨congrArg Value.bool (some_inj hm), rfl⟩, hs469⟩
        ·
         have h261p : ¬ ((r221.2.1 = 7) ↔ (r73 > r85.2)) := beq_no decide_eq_true_iff decide_eq_true_iff (bnot_true h261)
         replace hm := ite_no hm h261p
         refine zS 133 h261 ?_
         refine zS 132 h261 ?_
         refine zE 46 (hK260 _ _ ?_)
         refine W.cond_true true (by kernel_rfl) rfl ?_
         refine W.sr fun K470 hK470 => ?_
         refine zE 1 (hK470 _ _ ?_)
         refine W.ret (ret_seq (ret_block (ret_seq (ret_block (ret_seq (ret_seq (ret_block (ret_seq ?_))))))))
         have hs471 := St.tk0 hs233
         refine ret_of (.bool false) (by kernel_rfl) ⟨_, ⟨congrArg Value.bool (some_inj hm), rfl⟩, hs471⟩
      ·
       obtain ⟨h219p, hm⟩ := iN hm h219
       refine W.sr fun K472 hK472 => ?_
       refine zE 2 (hK472 _ _ ?_)
       refine W.cond (decide (((ss.getD p34.toNat dSt13).c0).tmod 3 = 1)) (by kernel_rfl) (fun h473 => ?_) (fun h473 => ?_)
       ·
        obtain ⟨h473p, hm⟩ := iY hm h473
        refine W.sr fun K474 hK474 => ?_
        refine zR 2 ?_
        obtain ⟨r475, h476, hm⟩ := bind_some hm
        have hs477 := St.f4 hs89
        have hs478 := St.f4 hs477
        refine zC22 hs478 (bDrop_walk (mb := b52) (vb := b45) (k_ := r70) (img := q33) (l := []) (gw := 1) (gi := (2 + 0 % 20)) (gb := (2 + m_ % 60)) (n_ := 1) (hm := h476) B _) fun w479 hs481 => ?_
        refine zR 2 ?_
        rcases Bool.eq_false_or_eq_true (!decide (r475.1 = 0)) with h482 | h482
        rotate_left
        ·
         have h482p : r475.1 = 0 := of_decide_eq_true (bnot_false h482)
         replace hm := ite_yes hm h482p
         refine zS 206 h482 ?_
         refine zS 205 h482 ?_
         refine zR 2 ?_
         obtain ⟨r483, h484, hm⟩ := bind_some hm
         refine zC00 hs481 (bneed_walk (k_ := r70) (img := q33) (l := r475.2) (gw := 1) (gi := (2 + 0 % 20)) (gb := (2 + m_ % 60)) (n_ := 1) (hmb := (hs481.heapAt 0 rfl)) (hv := (hs481.entAt 1 rfl viewA_at)) (hm := h484) B _) fun w485 hs487 => ?_
         refine zE 2 (hK474 _ _ ?_)
         refine W.cond (decide (r483 = 0)) (by kernel_rfl) (fun h488 => ?_) (fun h488 => ?_)
         ·
          obtain ⟨h488p, hm⟩ := iY hm h488
          refine W.sr fun K489 hK489 => ?_
          refine zE 1 (hK489 _ _ ?_)
          refine W.ret (ret_block (ret_seq (ret_block (ret_seq (ret_seq (ret_block (ret_seq ?_)))))))
          have hs490 := St.tk0 hs487
          refine ret_of (.bool false) (by kernel_rfl) ⟨_, ⟨congrArg Value.bool (some_inj hm), rfl⟩, hs490⟩
         ·
          obtain ⟨h488p, hm⟩ := iN hm h488
          refine W.skip ?_
          refine normal_block ?_
          have hs491 := St.f6 hs487
          have hs492 := St.f3 hs491
          have hs493 := St.f5 hs492
          have hs494 := St.f5 hs493
          have hs495 := St.f4 hs494
          have hs496 := St.f5 hs495
          have hs497 := St.f6 hs496
          exact ⟨r475.2, slots_intro _ (by kernel_rfl), hs497, hm⟩
        ·
         have h482p : ¬ (r475.1 = 0) := of_decide_eq_false (bnot_true h482)
         replace hm := ite_no hm h482p
         refine zS 206 h482 ?_
         refine zS 205 h482 ?_
         refine zE 5 (hK474 _ _ ?_)
         refine W.cond_true true (by kernel_rfl) rfl ?_
         refine W.sr fun K498 hK498 => ?_
         refine zE 1 (hK498 _ _ ?_)
         refine W.ret (ret_block (ret_seq (ret_block (ret_seq (ret_seq (ret_block (ret_seq ?_)))))))
         have hs499 := St.tk0 hs481
         refine ret_of (.bool false) (by kernel_rfl) ⟨_, ⟨congrArg Value.bool (some_inj hm), rfl⟩, hs499⟩
       ·
        obtain ⟨h473p, hm⟩ := iN hm h473
        refine W.seq fun K500 hK500 => ?_
        refine W.sr fun K501 hK501 => ?_
        refine zR 2 ?_
        obtain ⟨r502, h503, hm⟩ := bind_some hm
        have hs504 := St.f4 hs89
        have hs505 := St.f4 hs504
        refine zC22 hs505 (bCut_walk (mb := b52) (vb := b45) (f_ := r70) (img := q33) (l := []) (gw := 1) (gi := (2 + 0 % 20)) (gb := (2 + m_ % 60)) (n_ := 1) (hm := h503) B _) fun w506 hs508 => ?_
        refine zE 1 (hK501 _ _ ?_)
        refine W.cond (!decide (r502.1 = 0)) (by kernel_rfl) (fun h509 => ?_) (fun h509 => ?_)
        rotate_left
        ·
         have h509p : r502.1 = 0 := of_decide_eq_true (bnot_false h509)
         replace hm := ite_yes hm h509p
         refine W.skip ?_
         refine hK500 _ _ ?_
         refine W.sr fun K510 hK510 => ?_
         refine zE 2 (hK510 _ _ ?_)
         refine W.block ?_
         have hs516 := St.f6 hs508
         have hs517 := St.f3 hs516
         have hs518 := St.f5 hs517
         have hs519 := St.f5 hs518
         have hs520 := St.f4 hs519
         have hs521 := St.f5 hs520
         have hs522 := St.f6 hs521
         refine W.loop_iter (G := Int) (σ := Int) (fun | p511 => p511) (fun | p511, s_, w_ => (∃ us, s_ = slots 279 [(1, (.slice sa ss.length sc)), (5, (.pointer (some ⟨b19, 0, none⟩))), (7, (.int .i64 p34)), (8, (.pointer (some ⟨b45, 0, none⟩))), (9, (.pointer (some ⟨b52, 0, none⟩))), (11, (.pointer (some ⟨b59, 0, none⟩))), (24, (.int .i64 p511))] us) ∧ St B w [] w_ [blk b19 (.cells [(.int .i64 1), (.int .i64 (2 + 0 % 20)), (.int .i64 (2 + m_ % 60))].toArray 23 (0, 0)), viewA (ptr b45) q33 r502.2, blk b52 (.cells [(.pointer (some ⟨b45, 0, none⟩)), (.int .i64 1), (.int .i64 (2 + 0 % 20)), (.int .i64 (2 + m_ % 60)), (.int .i64 1)].toArray 85 (0, 0)), blk b60 (.cells [(.pointer (some ⟨b45, 0, none⟩)), (.int .i64 (placeOf 6 1 (2 + 0 % 20) (2 + m_ % 60) 0)), (.int .i64 (2 + 0 % 20))].toArray 136 (0, 0)), blk b61 (.cells [(.pointer (some ⟨b45, 0, none⟩)), (.int .i64 (placeOf 7 1 (2 + 0 % 20) (2 + m_ % 60) 0)), (.int .i64 (2 + m_ % 60))].toArray 136 (0, 0)), blk b59 (.cells [(.pointer (some ⟨b45, 0, none⟩)), (.int .i64 1), (.int .i64 (2 + 0 % 20)), (.int .i64 (2 + m_ % 60)), (.pointer (some ⟨b60, 0, none⟩)), (.int .i64 (2 + 0 % 20)), (.pointer (some ⟨b61, 0, none⟩)), (.int .i64 (2 + m_ % 60))].toArray 114 (0, 0)), kU64.row m31 m32 q33]) r70 ⟨slots_intro _ (by kernel_rfl), hs522⟩ hm ?_
         rintro k512 ih513 p511 _ w514 ⟨⟨us, rfl⟩, hs515⟩ hm
         replace hm : blocksonce_B2 m_ k35 q33 p34 r502 k512 p511 = some true := hm
         unfold blocksonce_B2 at hm
         refine W.seq fun K523 hK523 => ?_
         refine W.sr fun K524 hK524 => ?_
         refine zE 2 (hK524 _ _ ?_)
         refine W.cond (decide (p511 < 12)) (by kernel_rfl) (fun h525 => ?_) (fun h525 => ?_)
         ·
          obtain ⟨h525p, hm⟩ := iY hm h525
          refine W.skip ?_
          refine hK523 _ _ ?_
          refine W.seq fun K526 hK526 => ?_
          refine W.block ?_
          refine W.sr fun K527 hK527 => ?_
          refine zR 2 ?_
          obtain ⟨r528, h529, hm⟩ := bind_some hm
          refine zC00 hs515 (bneed_walk (k_ := p511) (img := q33) (l := r502.2) (gw := 1) (gi := (2 + 0 % 20)) (gb := (2 + m_ % 60)) (n_ := 1) (hmb := (hs515.heapAt 2 rfl)) (hv := (hs515.entAt 1 rfl viewA_at)) (hm := h529) B _) fun w530 hs532 => ?_
          refine zE 1 (hK527 _ _ ?_)
          refine W.cond (decide (r528 = 0)) (by kernel_rfl) (fun h533 => ?_) (fun h533 => ?_)
          ·
           obtain ⟨h533p, hm⟩ := iY hm h533
           refine W.sr fun K534 hK534 => ?_
           refine zE 1 (hK534 _ _ ?_)
           refine W.ret (ret_block (ret_seq (ret_seq (ret_block (ret_block (ret_seq (ret_block (ret_seq (ret_seq (ret_block (ret_seq ?_)))))))))))
           have hs535 := St.tk0 hs532
           refine ret_of (.bool false) (by kernel_rfl) ⟨_, ⟨congrArg Value.bool (some_inj hm), rfl⟩, hs535⟩
          ·
           obtain ⟨h533p, hm⟩ := iN hm h533
           refine W.skip ?_
           refine normal_block ?_
           refine hK526 _ _ ?_
           refine W.region ?_
           refine zR 1 ?_
           obtain ⟨h536, hm⟩ := need_some hm
           refine zI _ (wrap_i64 h536.1 h536.2) ?_
           refine zE 1 ?_
           refine loopAt_next ?_
           exact ih513 (p511 + 1) _ _ ⟨slots_intro _ (by kernel_rfl), hs532⟩ hm
         ·
          obtain ⟨h525p, hm⟩ := iN hm h525
          refine W.exit (exit_seq (exit_seq (exit_here ?_)))
          refine normal_block ?_
          exact ⟨r502.2, slots_intro _ (by kernel_rfl), hs515, hm⟩
        ·
         have h509p : ¬ (r502.1 = 0) := of_decide_eq_false (bnot_true h509)
         replace hm := ite_no hm h509p
         refine W.sr fun K537 hK537 => ?_
         refine zE 1 (hK537 _ _ ?_)
         refine W.ret (ret_seq (ret_block (ret_seq (ret_block (ret_seq (ret_seq (ret_block (ret_seq ?_))))))))
         have hs538 := St.tk0 hs508
         refine ret_of (.bool false) (by kernel_rfl) ⟨_, ⟨congrArg Value.bool (some_inj hm), rfl⟩, hs538⟩
    ·
     obtain ⟨h58p, hm⟩ := iN hm h58
     refine zC00 hs55 (anew_err (gw := 1) (gi := (2 + 0 % 20)) (gb := (2 + m_ % 60)) (hv := (hs55.entAt 1 rfl viewA_at)) (hz := h57) (hN := h58p) B _) fun w539 hs541 => ?_
     refine zR 5 ?_
     obtain ⟨r542, h543, hm⟩ := bind_some hm
     replace h543 := some_inj h543
     refine ops_set 12 (v := .int .i64 r542) (Eq.trans (by kernel_rfl) (congrArg (Value.int .i64) h543)) ?_
     refine zD (hK56 _ _ ?_)
     refine W.seq fun K544 hK544 => ?_
     refine W.sr fun K545 hK545 => ?_
     refine zE 18 (hK545 _ _ ?_)
     refine W.cond_true true (by kernel_rfl) rfl ?_
     refine W.sr fun K546 hK546 => ?_
     refine zE 1 (hK546 _ _ ?_)
     refine W.ret (ret_seq (ret_block (ret_seq (ret_seq (ret_block (ret_seq ?_))))))
     have hs547 := St.tk0 hs541
     refine ret_of (.bool false) (by kernel_rfl) ⟨_, ⟨congrArg Value.bool (some_inj hm), rfl⟩, hs547⟩
   ·
    obtain ⟨h51p, hm⟩ := iN hm h51
    refine zC00 hs49 (bof_err (gw := 1) (gi := (2 + 0 % 20)) (gb := (2 + m_ % 60)) (n_ := 1) (hv := (hs49.entAt 0 rfl viewA_at)) (hN := h51p) B _) fun w548 hs550 => ?_
    refine zR 5 ?_
    obtain ⟨r551, h552, hm⟩ := bind_some hm
    replace h552 := some_inj h552
    refine ops_set 10 (v := .int .i64 r551) (Eq.trans (by kernel_rfl) (congrArg (Value.int .i64) h552)) ?_
    refine zD (hK50 _ _ ?_)
    refine W.sr fun K553 hK553 => ?_
    refine zR 1 ?_
    refine ops_R (runs_loadAgg (ad := ⟨b19, 0, none⟩) (cs := [(.int .i64 1), (.int .i64 (2 + 0 % 20)), (.int .i64 (2 + m_ % 60))]) (by kernel_rfl) (cells_sub (hs550.heapAt 1 rfl) rfl)) ?_
    obtain ⟨h554, hm⟩ := need_some hm
    rcases Bool.eq_false_or_eq_true (decide (May 1 (2 + 0 % 20) (2 + m_ % 60) ∧ wordsOf 1 (2 + 0 % 20) (2 + m_ % 60) ≤ (q33.length : Int))) with h555 | h555
    ·
     obtain ⟨h555p, hm⟩ := iY hm h555
     refine ops_call0 hs550 (by kernel_rfl) (anew_ok (gw := 1) (gi := (2 + 0 % 20)) (gb := (2 + m_ % 60)) (hv := (hs550.entAt 0 rfl viewA_at)) (hz := h554) (hP := h555p) B _) ?_
     rintro _ _ w559 ⟨b556, b557, b558, rfl, rfl⟩ hs560
     have hs561 := St.ap3 hs560
     refine zE 5 (hK553 _ _ ?_)
     refine W.seq fun K562 hK562 => ?_
     refine W.sr fun K563 hK563 => ?_
     refine zE 18 (hK563 _ _ ?_)
     refine W.cond_true true (by kernel_rfl) rfl ?_
     refine W.sr fun K564 hK564 => ?_
     refine zE 1 (hK564 _ _ ?_)
     refine W.ret (ret_seq (ret_block (ret_seq (ret_seq (ret_block (ret_seq ?_))))))
     have hs565 := St.tk0 hs561
     refine ret_of (.bool false) (by kernel_rfl) ⟨_, ⟨congrArg Value.bool (some_inj hm), rfl⟩, hs565⟩
    ·
     obtain ⟨h555p, hm⟩ := iN hm h555
     refine zC00 hs550 (anew_err (gw := 1) (gi := (2 + 0 % 20)) (gb := (2 + m_ % 60)) (hv := (hs550.entAt 0 rfl viewA_at)) (hz := h554) (hN := h555p) B _) fun w566 hs568 => ?_
     refine zR 5 ?_
     obtain ⟨r569, h570, hm⟩ := bind_some hm
     replace h570 := some_inj h570
     refine ops_set 12 (v := .int .i64 r569) (Eq.trans (by kernel_rfl) (congrArg (Value.int .i64) h570)) ?_
     refine zD (hK553 _ _ ?_)
     refine W.seq fun K571 hK571 => ?_
     refine W.sr fun K572 hK572 => ?_
     refine zE 18 (hK572 _ _ ?_)
     refine W.cond_true true (by kernel_rfl) rfl ?_
     refine W.sr fun K573 hK573 => ?_
     refine zE 1 (hK573 _ _ ?_)
     refine W.ret (ret_seq (ret_block (ret_seq (ret_seq (ret_block (ret_seq ?_))))))
     have hs574 := St.tk0 hs568
     refine ret_of (.bool false) (by kernel_rfl) ⟨_, ⟨congrArg Value.bool (some_inj hm), rfl⟩, hs574⟩
  ·
   obtain ⟨h42p, hm⟩ := iN hm h42
   refine W.exit (exit_seq (exit_seq (exit_here ?_)))
   refine hK29 _ _ ?_
   refine W.sr fun K575 hK575 => ?_
   obtain ⟨r576, h577, hm⟩ := bind_some hm
   refine zC00 hs38 (works13_walk (hG := hG) (hT := (hs38.oldCells hT)) (hm := h577) B _) fun w578 hs580 => ?_
   refine zE 1 (hK575 _ _ ?_)
   refine W.ret ?_
   have hs581 := St.tk0 hs580
   refine ret_of (.bool r576) (by kernel_rfl) ⟨_, ⟨congrArg Value.bool (some_inj hm), rfl⟩, hs581⟩

end Go.Proofs.YtmmclabkkigiaaaDoor

namespace Go.Proofs.YtmmclabkkigiaaaDoor
open Go Go.RowKit
set_option linter.unusedVariables false
set_option linter.unusedSimpArgs false

theorem take_mem {xs : List Int} {p : Nat} (hn : xs.Nodup) (hp : p < xs.length) : xs.getD p 0 ∉ xs.take p := by
  intro h
  obtain ⟨j, hj, e⟩ := List.getElem_of_mem h
  rw [List.length_take] at hj
  have e1 : xs.getD p 0 = xs[p] := by simp [List.getD, hp]
  rw [List.getElem_take, e1] at e
  have := (List.getElem_inj hn).1 e
  omega
theorem blocksonce_law {m_ : Int} {ss : List TSt13} (hm : 0 ≤ m_ ∧ m_ ≤ 255) (hs : ∀ x ∈ ss, good_St13 x) : blocksonce_M m_ ss = some true := by
  refine Ok.true ?_
  unfold blocksonce_M
  refine Ok.ite (fun _ => works13_stop) fun h60 => ?_
  refine Ok.need (by omega) (Ok.need (by omega) ?_)
  have e2 : (2 : Int) + 0 % 20 = 2 := rfl
  obtain ⟨gb, hgb⟩ : ∃ gb, gb = 2 + m_ % 60 := ⟨_, rfl⟩
  have hM : May 1 2 gb := by unfold May; omega
  have hF := Mp.fmt hM
  have hg1 : 2 ≤ gb ∧ gb ≤ 61 := by omega
  rw [e2, ← hgb]
  let I : List Int → Prop := fun q => ∃ f c, Mp 2 gb q [] 1 (fun _ => False) ⟨2, 1, 0, 0, 0⟩ f c
  refine Ok.iter (fun s => I s.1 ∧ 0 ≤ s.2) (fun s => ((ss.length : Int) - s.2).toNat) ?_ _ _ ⟨⟨_, _, hF⟩, by simp⟩ (fuel_lt (by simp only; omega))
  rintro k ⟨q, p⟩ ⟨⟨f, c, h⟩, h1⟩ ih
  simp only at h h1 ih
  have hql := h.dk.len
  have hw := h.dk.words
  unfold blocksonce_B0
  simp only
  rw [e2, ← hgb]
  refine Ok.ite (fun hp => ?_) (fun _ => works13_stop)
  refine Ok.need (by omega) (Ok.yes (by rw [h.iget]) (Ok.need (by omega) (Ok.yes ⟨hM, by omega⟩ (Ok.need (by omega) (Ok.name fun kz hkz => ?_)))))
  have hmx : 0 ≤ mx (ss.getD p.toNat dSt13).c1 0 := by unfold mx; split <;> omega
  have hk12 := Int.tmod_eq_emod_of_nonneg (a := mx (ss.getD p.toNat dSt13).c1 0) (b := 12) hmx
  obtain ⟨kk, hkk⟩ := Int.eq_ofNat_of_zero_le (show 0 ≤ kz by omega)
  have hk : kk < 12 := by omega
  clear hkz hk12 hmx
  subst hkk
  rw [h.need hk, h.at hk, place6 hM, place7 hM]
  simp only [Int.reduceMul, Int.reduceAdd]
  rw [h.free]
  simp only [Option.bind]
  refine Ok.need (by omega) ?_
  have hcnt0 := h.count fun _ x => x
  -- behind the call
  have J2 : ∀ (m : List (Int × Int)) (f' : Nat → Int) (c' : Int), Mp 2 gb q m 1 (fun _ => False) ⟨2, 1, 0, 0, 0⟩ f' c' → Ok (· = true) (blocksonce_J2 m_ k q p m) := by
    intro m f' c' h'
    unfold blocksonce_J2
    rw [e2, ← hgb, h'.list]
    simp only [Option.bind]
    have hnd := h'.nodup
    have hin := h'.ownIn
    have hcnt := h'.count fun _ x => x
    have hcle := cnt_le (mbits q m 480) gb.toNat
    have hown : ∀ j : Nat, j < (ownF f' c').length → 0 < (ownF f' c').getD j 0 ∧ (ownF f' c').getD j 0 < gb ∧ mbits q m 480 ((ownF f' c').getD j 0).toNat = true := fun j hj => by
      have hmem : (ownF f' c').getD j 0 ∈ ownF f' c' := by simp [List.getD, hj]
      have hr := hin _ hmem
      refine ⟨hr.1, hr.2, (h'.bits _ (by omega)).2 ?_⟩
      obtain ⟨_, y⟩ := mem_ownF.1 hmem
      rcases y with ⟨i, i1, i2⟩ | y
      · exact .inr (.inl ⟨i, i1, by omega⟩)
      · exact .inr (.inr (.inl (by omega)))
    have J3 : ∀ b : List Bool, Ok (· = true) (blocksonce_J3 m_ k q p m (ownF f' c') b) := by
      intro b
      unfold blocksonce_J3
      rw [e2, ← hgb, place6 hM, place7 hM]
      simp only [Int.reduceMul, Int.reduceAdd]
      rw [h'.free]
      simp only [Option.bind]
      have hvl := vflat_length q m
      refine Ok.need (by omega) (Ok.need (by omega) (Ok.yes (by omega) (Ok.yes (by omega) (Ok.need (by omega) (ih _ ⟨⟨f', c', h'.flat⟩, by simp only; omega⟩ (by simp only; omega))))))
    generalize ownF f' c' = xs at *
    refine Ok.iter (fun s : List Bool × Int => s.1.length = 64 ∧ 0 ≤ s.2 ∧ ∀ b : Nat, s.1.getD b false = true → (b : Int) ∈ xs.take s.2.toNat) (fun s => ((xs.length : Int) - s.2).toNat) ?_ _ _ ⟨by simp, by simp, fun b hb => ?_⟩ (fuel_lt (by simp only; omega))
    rotate_left
    · simp only [List.getD_eq_getElem?_getD, List.getElem?_replicate] at hb
      split at hb <;> simp at hb
    rintro k3 ⟨is, t⟩ ⟨t1, t2, t3⟩ ih3
    simp only at t1 t2 t3 ih3
    unfold blocksonce_B3
    simp only
    rw [e2, ← hgb, place7 hM]
    simp only [Int.reduceMul, Int.reduceAdd]
    refine Ok.ite (fun ht => ?_) (fun _ => J3 is)
    obtain ⟨o1, o2, o3⟩ := hown t.toNat (by omega)
    have hno := take_mem hnd (show t.toNat < xs.length by omega)
    refine Ok.need (by omega) (Ok.no (by omega) (Ok.need (by omega) (Ok.no (by omega) (Ok.need (by omega) (Ok.need (by omega) (Ok.need (by omega) (Ok.no (fun hb => ?_) (Ok.need (by omega) ?_))))))))
    · have := t3 _ hb
      rw [show (((xs.getD t.toNat 0).toNat : Nat) : Int) = xs.getD t.toNat 0 by omega] at this
      exact hno this
    · rw [aused_true h'.dk (by omega) o3]
      simp only [Option.bind]
      refine Ok.yes (by trivial) (Ok.need (by omega) (Ok.need (by omega) (Ok.need (by omega) (Ok.need (by omega) (ih3 _ ⟨by simp only [List.length_set]; exact t1, by simp only; omega, fun b hb => ?_⟩ (by simp only; omega))))))
      simp only at hb ⊢
      rw [show (t + 1).toNat = t.toNat + 1 by omega, take_snoc 0 (by omega), List.mem_append, List.mem_singleton]
      rw [List.getD_eq_getElem?_getD, List.getElem?_set] at hb
      by_cases e : (xs.getD t.toNat 0).toNat = b
      · exact .inr (by omega)
      · rw [if_neg e, ← List.getD_eq_getElem?_getD] at hb
        exact .inl (t3 b hb)
  have J5 : ∀ (b : Int) (m : List (Int × Int)) (f' : Nat → Int) (c' : Int), Mp 2 gb q m 1 (fun _ => False) ⟨2, 1, 0, 0, 0⟩ f' c' → (f kk = 0 → (0 < b ∧ b < gb) ∧ ∀ z, 520 + 8 * b ≤ z ∧ z < 520 + 8 * b + 8 → vget q m z = 0) → Ok (· = true) (blocksonce_J5 m_ k q p (f kk, 0) (b, 0, m)) := by
    intro b m f' c' h' hz
    unfold blocksonce_J5
    refine Ok.iter (fun z => 0 ≤ z) (fun z => (8 - z).toNat) ?_ _ _ (by omega) (fuel_lt (by omega))
    intro k3 z z1 ih3
    unfold blocksonce_B1
    simp only
    rw [e2, ← hgb]
    refine Ok.ite (fun hz8 => Ok.yes (by trivial) (Ok.ite (fun h0 => ?_) (fun _ => J2 m f' c' h'))) (fun _ => J2 m f' c' h')
    obtain ⟨hb, hzz⟩ := hz h0
    rw [place9_in hM (by omega)]
    exact Ok.need (by omega) (Ok.yes (hzz _ (by omega)) (Ok.need (by omega) (ih3 _ (by omega) (by omega))))
  have J57 : Ok (· = true) (blocksonce_J5 m_ k q p (f kk, 0) (0, 7, [])) := by
    unfold blocksonce_J5
    refine Ok.iter (fun z => 0 ≤ z) (fun z => (8 - z).toNat) ?_ _ _ (by omega) (fuel_lt (by omega))
    intro k3 z z1 ih3
    unfold blocksonce_B1
    simp only
    exact Ok.ite (fun _ => Ok.no (by omega) (J2 [] f c h)) (fun _ => J2 [] f c h)
  refine Ok.ite (fun _ => ?_) fun _ => Ok.ite (fun _ => ?_) fun _ => ?_
  · -- taken
    rcases h.take hk (by simp) with ⟨a1, a2⟩ | ⟨a1, a3, a2⟩ | ⟨a1, a3, m, b, c', a2, a4, a5, a6, a7, a8, a9, a10⟩
    · have hnd : needF f c kk = 0 := by unfold needF; rw [if_neg a1]
      have hr := h.rf kk hk
      have hcle := cnt_le (mbits q [] 480) gb.toNat
      rw [a2, hnd]
      simp only
      rw [h.free]
      simp only
      refine Ok.yes (by omega) (Ok.yes (by trivial) (Ok.no (by omega) (Ok.yes (by trivial) (Ok.need (by omega) (Ok.yes (by omega) (Ok.no (by omega) (Ok.no a1 (Ok.yes (by trivial) ?_))))))))
      rw [aused_true h.dk (by omega) (h.used hk a1)]
      simp only
      exact Ok.yes (by trivial) (J5 (f kk) [] f c h fun e => absurd e a1)
    · rw [a2]
      simp only
      rw [h.free]
      simp only
      exact Ok.yes ⟨fun _ => by omega, fun _ => by trivial⟩ (Ok.no (by omega) (Ok.yes (by trivial) (Ok.yes (by trivial) (Ok.yes (by trivial) (Ok.no (by omega) J57)))))
    · have hcnt1 := a5.count fun _ x => x
      have hN : needF f c kk = if kk < 4 ∨ c ≠ 0 then 1 else 2 := by unfold needF; rw [if_pos a1]
      have hlen1 : ((ownF (upd f kk b) c').length : Int) = (ownF f c).length + needF f c kk := by
        have hu := listF_upd (n := 12) a1 (show b ≠ 0 by omega)
        rw [if_pos hk] at hu
        rw [hN]
        rcases a8 with ⟨e, hor⟩ | ⟨e1, hk4, e3, _⟩
        · subst e
          unfold ownF
          rw [if_pos hor]
          by_cases hc : c' = 0
          · rw [if_pos hc, if_pos hc]; omega
          · rw [if_neg hc, if_neg hc]; simp only [List.length_append, List.length_cons, List.length_nil]; omega
        · unfold ownF
          rw [if_pos e1, if_neg (show ¬ c' = 0 by omega), if_neg (by omega)]
          simp only [List.length_append, List.length_cons, List.length_nil]
          omega
      have hcle := cnt_le (mbits q [] 480) gb.toNat
      have hcle2 := cnt_le (mbits q m 480) gb.toNat
      have hbg : b < gb := by have := (a5.rf kk hk).2; rw [upd_at] at this; exact this
      have hbu : mbits q m 480 b.toNat = true := by
        have := a5.used (k := kk) hk (by rw [upd_at]; omega)
        rw [upd_at] at this
        exact this
      rw [a2]
      simp only
      rw [a5.free]
      simp only
      refine Ok.yes (by omega) (Ok.yes (by trivial) (Ok.no (by omega) (Ok.yes (by trivial) (Ok.need (by omega) (Ok.yes (by omega) (Ok.no (by omega) (Ok.yes a1 ?_)))))))
      rw [aused_true a5.dk (by omega) hbu]
      simp only
      exact Ok.yes (by trivial) (J5 b m _ c' a5 fun _ => ⟨by omega, fun z hz => a9 z (by omega)⟩)
  · -- dropped
    obtain ⟨m, c', a1, a2, a3, _⟩ := h.drop hk (by simp)
    rw [a1]
    simp only
    refine Ok.yes (by trivial) ?_
    rw [a3.need hk]
    simp only
    refine Ok.no ?_ (J2 m _ c' a3)
    unfold needF
    rw [upd_at, if_pos rfl]
    split <;> omega
  · -- cut
    obtain ⟨m, c', a1, a2, a3, _⟩ := h.cut (a := kk) (by omega) (by simp)
    rw [a1]
    simp only
    refine Ok.yes (by trivial) ?_
    refine Ok.iter (fun z => (kk : Int) ≤ z) (fun z => (12 - z).toNat) ?_ _ _ (by omega) (fuel_lt (by omega))
    intro k3 z z1 ih3
    unfold blocksonce_B2
    simp only
    rw [e2, ← hgb]
    refine Ok.ite (fun hz => ?_) (fun _ => J2 m _ c' a3)
    obtain ⟨zn, rfl⟩ := Int.eq_ofNat_of_zero_le (show 0 ≤ z by omega)
    rw [a3.need (by omega)]
    simp only [Option.bind]
    refine Ok.no ?_ (Ok.need (by omega) (ih3 _ (by omega) (by omega)))
    unfold needF cutF
    rw [if_pos (show kk ≤ zn ∧ zn < 12 by omega), if_pos rfl]
    split <;> omega
end Go.Proofs.YtmmclabkkigiaaaDoor
