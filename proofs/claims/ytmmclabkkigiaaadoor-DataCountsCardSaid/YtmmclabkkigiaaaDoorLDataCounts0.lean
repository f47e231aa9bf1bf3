/- Texts, one behind the other: ALdCo, PLdCo. -/
import Derived.Test.YtmmclabkkigiaaaDoorQDN7
set_option linter.unusedVariables false
set_option linter.unusedSimpArgs false
set_option linter.unusedVariables false
set_option maxRecDepth 20000
set_option maxHeartbeats 4000000
namespace Go.Proofs.YtmmclabkkigiaaaDoor
open Go Go.RowKit
set_option linter.unusedSimpArgs false
set_option linter.unusedVariables false

def datacounts_J3 (b_ : Int) (k36 : ((List Int) × Int) → Option (Bool)) (q34 : List Int) (p35 : Int) (l81 : List (Int × Int)) : Option (Bool) :=
 (some (wordsOf 1 (2 + 1 % 20) (2 + b_ % 60))).bind fun r116 =>
if (((vflat q34 l81).length) : Int) = r116 then (need (-9223372036854775808 ≤ (p35 + 1) ∧ (p35 + 1) ≤ 9223372036854775807) <|
k36 ((vflat q34 l81), (p35 + 1))) else (some false)

def datacounts_B1 (b_ : Int) (k36 : ((List Int) × Int) → Option (Bool)) (q34 : List Int) (p35 : Int) (l81 : List (Int × Int)) (k135 : Int → Option (Bool)) (p134 : Int) : Option (Bool) :=
 if p134 < 12 then ((bat_M q34 l81 1 (2 + 1 % 20) (2 + b_ % 60) 2 p134).bind fun r153 =>
if r153.1 = 0 then (if r153.2 = 0 then (need (-9223372036854775808 ≤ (p134 + 1) ∧ (p134 + 1) ≤ 9223372036854775807) <|
k135 (p134 + 1)) else (some false)) else (some false)) else (datacounts_J3 b_ k36 q34 p35 l81)

def datacounts_J2 (b_ : Int) (k36 : ((List Int) × Int) → Option (Bool)) (q34 : List Int) (p35 : Int) (l81 : List (Int × Int)) : Option (Bool) :=
 if (igetM q34 l81 1 (2 + 1 % 20) (2 + b_ % 60) 2).2 = 0 then ((some (igetM q34 l81 1 (2 + 1 % 20) (2 + b_ % 60) 2)).bind fun r91 =>
if r91.2 = 0 then (need (-9223372036854775808 ≤ ((r91.1.s + 63) % 18446744073709551616) ∧ ((r91.1.s + 63) % 18446744073709551616) ≤ 9223372036854775807) <|
need (-9223372036854775808 ≤ (((r91.1.s + 63) % 18446744073709551616).tdiv 64) ∧ (((r91.1.s + 63) % 18446744073709551616).tdiv 64) ≤ 9223372036854775807) <|
(some (((r91.1.s + 63) % 18446744073709551616).tdiv 64)).bind fun r132 =>
iter (fun k_ s_ => datacounts_B1 b_ k36 q34 p35 l81 k_ s_) FUEL r132) else (some false)) else ((some ((igetM q34 l81 1 (2 + 1 % 20) (2 + b_ % 60) 2).2)).bind fun r180 =>
(some (igetM q34 l81 1 (2 + 1 % 20) (2 + b_ % 60) 2)).bind fun r183 =>
some false)

def datacounts_B0 (b_ : Int) (ss : List TSt14) (k36 : ((List Int) × Int) → Option (Bool)) (q34 : List Int) (p35 : Int) : Option (Bool) :=
 if p35 < (ss.length : Int) then (need (q34.length ≤ 17592186044415) <|
need ((q34.length : Int) ≤ 1000000000000) <|
if May 1 (2 + 1 % 20) (2 + b_ % 60) ∧ wordsOf 1 (2 + 1 % 20) (2 + b_ % 60) ≤ (q34.length : Int) then (need (0 ≤ p35 ∧ p35 < (ss.length : Int)) <|
(some (((ss.getD p35.toNat dSt14).c2).tmod 769)).bind fun r71 =>
need ((0 : Int) ≤ 0 ∧ (0 : Int) ≤ (mn (((ss.getD p35.toNat dSt14).c4).size : Int) 128) ∧ (mn (((ss.getD p35.toNat dSt14).c4).size : Int) 128) ≤ (((ss.getD p35.toNat dSt14).c4).size : Int)) <|
(afree_M q34 ([]) (2 + 1 % 20) (2 + b_ % 60) (placeOf 6 1 (2 + 1 % 20) (2 + b_ % 60) 0) (placeOf 7 1 (2 + 1 % 20) (2 + b_ % 60) 0)).bind fun r76 =>
if ((ss.getD p35.toNat dSt14).c0).tmod 2 = 0 then ((dNeed_M q34 ([]) 1 (2 + 1 % 20) (2 + b_ % 60) 2 r71 ((((ss.getD p35.toNat dSt14).c4).extract 0 ((mn (((ss.getD p35.toNat dSt14).c4).size : Int) 128).toNat)).size : Int)).bind fun r203 =>
(dWrite_M q34 ([]) 1 (2 + 1 % 20) (2 + b_ % 60) 2 r71 (((ss.getD p35.toNat dSt14).c4).extract 0 ((mn (((ss.getD p35.toNat dSt14).c4).size : Int) 128).toNat))).bind fun r210 =>
(afree_M q34 r210.2 (2 + 1 % 20) (2 + b_ % 60) (placeOf 6 1 (2 + 1 % 20) (2 + b_ % 60) 0) (placeOf 7 1 (2 + 1 % 20) (2 + b_ % 60) 0)).bind fun r216 =>
if ((r210.1 = 7) ↔ (r203 > r76.2)) then (if r210.1 = 0 then (need (-9223372036854775808 ≤ (r76.2 - r203) ∧ (r76.2 - r203) ≤ 9223372036854775807) <|
if r216.2 = (r76.2 - r203) then (if r210.1 = 0 then ((dNeed_M q34 r210.2 1 (2 + 1 % 20) (2 + b_ % 60) 2 r71 ((((ss.getD p35.toNat dSt14).c4).extract 0 ((mn (((ss.getD p35.toNat dSt14).c4).size : Int) 128).toNat)).size : Int)).bind fun r227 =>
if r227 = 0 then (datacounts_J2 b_ k36 q34 p35 r210.2) else (if r210.1 = 0 then (some false) else (datacounts_J2 b_ k36 q34 p35 r210.2))) else (if r216.2 = r76.2 then ((dNeed_M q34 r210.2 1 (2 + 1 % 20) (2 + b_ % 60) 2 r71 ((((ss.getD p35.toNat dSt14).c4).extract 0 ((mn (((ss.getD p35.toNat dSt14).c4).size : Int) 128).toNat)).size : Int)).bind fun r251 =>
if r251 = 0 then (datacounts_J2 b_ k36 q34 p35 r210.2) else (if r210.1 = 0 then (some false) else (datacounts_J2 b_ k36 q34 p35 r210.2))) else (some false))) else (some false)) else (if r210.1 = 0 then ((dNeed_M q34 r210.2 1 (2 + 1 % 20) (2 + b_ % 60) 2 r71 ((((ss.getD p35.toNat dSt14).c4).extract 0 ((mn (((ss.getD p35.toNat dSt14).c4).size : Int) 128).toNat)).size : Int)).bind fun r279 =>
if r279 = 0 then (datacounts_J2 b_ k36 q34 p35 r210.2) else (if r210.1 = 0 then (some false) else (datacounts_J2 b_ k36 q34 p35 r210.2))) else (if r216.2 = r76.2 then ((dNeed_M q34 r210.2 1 (2 + 1 % 20) (2 + b_ % 60) 2 r71 ((((ss.getD p35.toNat dSt14).c4).extract 0 ((mn (((ss.getD p35.toNat dSt14).c4).size : Int) 128).toNat)).size : Int)).bind fun r303 =>
if r303 = 0 then (datacounts_J2 b_ k36 q34 p35 r210.2) else (if r210.1 = 0 then (some false) else (datacounts_J2 b_ k36 q34 p35 r210.2))) else (some false)))) else (some false)) else ((dResize_M q34 ([]) 1 (2 + 1 % 20) (2 + b_ % 60) 2 r71).bind fun r331 =>
if r331.1 = 0 then (datacounts_J2 b_ k36 q34 p35 r331.2) else (some false))) else ((some (if May 1 (2 + 1 % 20) (2 + b_ % 60) then (8 : Int) else 1)).bind fun r350 =>
some false)) else ((works14_M).bind fun r357 =>
some r357)

def datacounts_M (b_ : Int) (ss : List TSt14) : Option (Bool) :=
 (great14_M ss).bind fun r4 =>
if r4 = true then ((works14_M).bind fun r11 =>
some r11) else ((file14_M b_).bind fun r19 =>
iter (fun k_ s_ => datacounts_B0 b_ ss k_ s_.1 s_.2) FUEL (r19, 0))

theorem datacounts_walk {b_ : Int} {ss : List TSt14} {sa : Option Addr} {sc : Nat}  (B : Nat) (w : World) (hB : w.heap.size = B) (hT : CellsAt (some ⟨0, 0, none⟩) tab8 w) (hst : CellsAt sa (kSt14.cells ss) w) (hm : datacounts_M b_ ss = some true) : Spec Tryd.prog 9 #[(.int .u8 b_), (.slice sa ss.length sc)] B w [] (fun v H' => v = .bool true ∧ H' = []) := by
 refine spec_Q Tryd.func9 rfl fun hs => ?_
 unfold datacounts_M at hm
 have hG : 0 < B := by rw [← hB]; exact lt_of_cells hT (v := .int .u8 0) (by kernel_rfl)
 refine W.sr fun K1 hK1 => ?_
 refine zE 1 (hK1 _ _ ?_)
 refine W.seq fun K2 hK2 => ?_
 refine W.sr fun K3 hK3 => ?_
 refine zR 1 ?_
 obtain ⟨r4, h5, hm⟩ := bind_some hm
 refine zC00 hs (great14_walk (sc := sc) (hst := (hs.oldCells hst)) (hm := h5) B _) fun w6 hs8 => ?_
 refine zD (hK3 _ _ ?_)
 refine W.cond r4 (by kernel_rfl) (fun h9 => ?_) (fun h9 => ?_)
 ·
  have h9p : r4 = true := h9
  replace hm := ite_yes hm h9p
  refine W.sr fun K10 hK10 => ?_
  obtain ⟨r11, h12, hm⟩ := bind_some hm
  refine zC00 hs8 (works14_walk (hG := hG) (hT := (hs8.oldCells hT)) (hm := h12) B _) fun w13 hs15 => ?_
  refine zE 1 (hK10 _ _ ?_)
  refine W.ret (ret_seq ?_)
  refine ret_of (.bool r11) (by kernel_rfl) ⟨_, ⟨congrArg Value.bool (some_inj hm), rfl⟩, hs15⟩
 ·
  have h9p : ¬ (r4 = true) := ne_true_of_eq_false h9
  replace hm := ite_no hm h9p
  refine W.skip ?_
  refine hK2 _ _ ?_
  refine W.sr fun K16 hK16 => ?_
  refine zR 1 ?_
  obtain ⟨r19, h20, hm⟩ := bind_some hm
  refine ops_call0 hs8 (by kernel_rfl) (file14_walk (b_ := b_) (hm := h20) B _) ?_
  rintro _ _ w21 ⟨a17, c18, rfl, rfl⟩ hs22
  have hs23 := St.ap1 hs22
  refine zR 3 ?_
  refine zN [(.int .i64 0), (.int .i64 0), (.int .i64 0)] 23 hs23 fun b26 w24 hs25 => ?_
  refine ops_store (off := 0) (cs := [(.int .i64 0), (.int .i64 0), (.int .i64 0)]) (vs := [(.int .i64 1), (.int .i64 (2 + 1 % 20)), (.int .i64 (2 + b_ % 60))]) hs25 (by kernel_rfl) (by simp) rfl (fun w27 hs28 => ?_)
  have hs29 : St B w [] w27 [blk b26 (.cells [(.int .i64 1), (.int .i64 (2 + 1 % 20)), (.int .i64 (2 + b_ % 60))].toArray 23 (0, 0)), kU64.row a17 c18 r19] := hs28
  refine zE 1 (hK16 _ _ ?_)
  refine W.seq fun K30 hK30 => ?_
  refine W.sr fun K31 hK31 => ?_
  refine zE 1 (hK31 _ _ ?_)
  refine W.block ?_
  refine W.loop_iter (G := (List Int) × Int × (Option Addr) × Nat) (σ := (List Int) × Int) (fun | (q34, p35, m32, m33) => (q34, p35)) (fun | (q34, p35, m32, m33), s_, w_ => (∃ us, s_ = slots 193 [(1, (.slice sa ss.length sc)), (5, (.pointer (some ⟨b26, 0, none⟩))), (6, (.slice m32 q34.length m33)), (7, (.int .i64 p35))] us) ∧ St B w [] w_ [blk b26 (.cells [(.int .i64 1), (.int .i64 (2 + 1 % 20)), (.int .i64 (2 + b_ % 60))].toArray 23 (0, 0)), kU64.row m32 m33 q34]) (r19, 0, a17, c18) ⟨slots_intro _ (by kernel_rfl), hs29⟩ hm ?_
  rintro k36 ih37 ⟨q34, p35, m32, m33⟩ _ w38 ⟨⟨us, rfl⟩, hs39⟩ hm
  replace hm : datacounts_B0 b_ ss k36 q34 p35 = some true := hm
  unfold datacounts_B0 at hm
  refine W.seq fun K40 hK40 => ?_
  refine W.sr fun K41 hK41 => ?_
  refine zE 4 (hK41 _ _ ?_)
  refine W.cond (decide (p35 < (ss.length : Int))) (by kernel_rfl) (fun h42 => ?_) (fun h42 => ?_)
  ·
   obtain ⟨h42p, hm⟩ := iY hm h42
   refine W.skip ?_
   refine hK40 _ _ ?_
   refine W.seq fun K43 hK43 => ?_
   refine W.block ?_
   refine W.sr fun K44 hK44 => ?_
   refine zR 1 ?_
   obtain ⟨h46, hm⟩ := need_some hm
   refine ops_call0 hs39 (by kernel_rfl) (new_spec (hc := (St.kcells kU64 hs39 1 rfl)) (hn := (St.capnil kU64 hs39 1 rfl)) (hsz := h46) B _) ?_
   rintro _ _ w47 ⟨b45, rfl, rfl⟩ hs48
   have hs49 := St.ap1 hs48
   refine zE 1 (hK44 _ _ ?_)
   refine W.sr fun K50 hK50 => ?_
   refine zR 1 ?_
   refine ops_R (runs_loadAgg (ad := ⟨b26, 0, none⟩) (cs := [(.int .i64 1), (.int .i64 (2 + 1 % 20)), (.int .i64 (2 + b_ % 60))]) (by kernel_rfl) (cells_sub (hs49.heapAt 1 rfl) rfl)) ?_
   obtain ⟨h51, hm⟩ := need_some hm
   rcases Bool.eq_false_or_eq_true (decide (May 1 (2 + 1 % 20) (2 + b_ % 60) ∧ wordsOf 1 (2 + 1 % 20) (2 + b_ % 60) ≤ (q34.length : Int))) with h52 | h52
   ·
    obtain ⟨h52p, hm⟩ := iY hm h52
    refine ops_call0 hs49 (by kernel_rfl) (anew_ok (gw := 1) (gi := (2 + 1 % 20)) (gb := (2 + b_ % 60)) (hv := (hs49.entAt 0 rfl viewA_at)) (hz := h51) (hP := h52p) B _) ?_
    rintro _ _ w56 ⟨b53, b54, b55, rfl, rfl⟩ hs57
    have hs58 := St.ap3 hs57
    refine zE 5 (hK50 _ _ ?_)
    refine W.seq fun K59 hK59 => ?_
    refine W.sr fun K60 hK60 => ?_
    refine zE 10 (hK60 _ _ ?_)
    refine W.cond_false false (by kernel_rfl) rfl ?_
    refine W.skip ?_
    refine hK59 _ _ ?_
    refine W.sr fun K61 hK61 => ?_
    refine zR 2 ?_
    obtain ⟨h63, hm⟩ := need_some hm
    have hk62 := lt_toNat h63
    refine ops_R (runs_index (a := sa) (n := ss.length) (z := p35) (size := 6) p35.toNat (nat_of h63.1) hk62 (kSt14.addr (hs58.oldCells hst) hk62) (by kernel_rfl)) ?_
    refine ops_R (runs_loadAgg (cs := [(.int .u8 ((ss.getD p35.toNat dSt14).c0)), (.int .i64 ((ss.getD p35.toNat dSt14).c1)), (.int .u64 ((ss.getD p35.toNat dSt14).c2)), (.int .u64 ((ss.getD p35.toNat dSt14).c3)), (.string ((ss.getD p35.toNat dSt14).c4)), (.bool ((ss.getD p35.toNat dSt14).c5))]) (by kernel_rfl) (kSt14.all (hs58.oldCells hst) hk62 dSt14 0 rfl)) ?_
    refine zN [(.int .u8 0), (.int .i64 0), (.int .u64 0), (.int .u64 0), (.string ByteArray.empty), (.bool false)] 75 hs58 fun b66 w64 hs65 => ?_
    refine ops_store (off := 0) (cs := [(.int .u8 0), (.int .i64 0), (.int .u64 0), (.int .u64 0), (.string ByteArray.empty), (.bool false)]) (vs := [(.int .u8 ((ss.getD p35.toNat dSt14).c0)), (.int .i64 ((ss.getD p35.toNat dSt14).c1)), (.int .u64 ((ss.getD p35.toNat dSt14).c2)), (.int .u64 ((ss.getD p35.toNat dSt14).c3)), (.string ((ss.getD p35.toNat dSt14).c4)), (.bool ((ss.getD p35.toNat dSt14).c5))]) hs65 (by kernel_rfl) (by simp) rfl (fun w67 hs68 => ?_)
    have hs69 : St B w [] w67 [blk b66 (.cells [(.int .u8 ((ss.getD p35.toNat dSt14).c0)), (.int .i64 ((ss.getD p35.toNat dSt14).c1)), (.int .u64 ((ss.getD p35.toNat dSt14).c2)), (.int .u64 ((ss.getD p35.toNat dSt14).c3)), (.string ((ss.getD p35.toNat dSt14).c4)), (.bool ((ss.getD p35.toNat dSt14).c5))].toArray 75 (0, 0)), blk b53 (.cells [(.pointer (some ⟨b45, 0, none⟩)), (.int .i64 1), (.int .i64 (2 + 1 % 20)), (.int .i64 (2 + b_ % 60)), (.pointer (some ⟨b54, 0, none⟩)), (.int .i64 (2 + 1 % 20)), (.pointer (some ⟨b55, 0, none⟩)), (.int .i64 (2 + b_ % 60))].toArray 114 (0, 0)), blk b54 (.cells [(.pointer (some ⟨b45, 0, none⟩)), (.int .i64 (placeOf 6 1 (2 + 1 % 20) (2 + b_ % 60) 0)), (.int .i64 (2 + 1 % 20))].toArray 136 (0, 0)), blk b55 (.cells [(.pointer (some ⟨b45, 0, none⟩)), (.int .i64 (placeOf 7 1 (2 + 1 % 20) (2 + b_ % 60) 0)), (.int .i64 (2 + b_ % 60))].toArray 136 (0, 0)), viewA (ptr b45) q34 ([]), blk b26 (.cells [(.int .i64 1), (.int .i64 (2 + 1 % 20)), (.int .i64 (2 + b_ % 60))].toArray 23 (0, 0)), kU64.row m32 m33 q34] := hs68
    refine zD (hK61 _ _ ?_)
    refine W.sr fun K70 hK70 => ?_
    refine zR 1 ?_
    refine zL ⟨b66, 2, none⟩ (.int .u64 ((ss.getD p35.toNat dSt14).c2)) (hs69.cellAt 0 rfl rfl) ?_
    refine zR 2 ?_
    obtain ⟨r71, h72, hm⟩ := bind_some hm
    replace h72 := some_inj h72
    refine ops_set 12 (v := .int .u64 r71) (Eq.trans (by kernel_rfl) (congrArg (Value.int .u64) h72)) ?_
    refine zD (hK70 _ _ ?_)
    refine W.sr fun K73 hK73 => ?_
    refine zR 1 ?_
    refine zL ⟨b66, 4, none⟩ (.string ((ss.getD p35.toNat dSt14).c4)) (hs69.cellAt 0 rfl rfl) ?_
    refine zR 1 ?_
    refine zL ⟨b66, 4, none⟩ (.string ((ss.getD p35.toNat dSt14).c4)) (hs69.cellAt 0 rfl rfl) ?_
    refine zR 2 ?_
    obtain ⟨h74, hm⟩ := need_some hm
    refine ops_R (v := (.string (((ss.getD p35.toNat dSt14).c4).extract 0 ((mn (((ss.getD p35.toNat dSt14).c4).size : Int) 128).toNat)))) (runs_strSlice (b := (ss.getD p35.toNat dSt14).c4) (lo := none) (hi := (some (mn (((ss.getD p35.toNat dSt14).c4).size : Int) 128))) 0 ((mn (((ss.getD p35.toNat dSt14).c4).size : Int) 128).toNat) (.inr ⟨rfl, rfl⟩) (.inl (congrArg some (nat_of (Int.le_trans h74.1 h74.2.1)))) (by omega) (by omega) (by kernel_rfl)) ?_
    refine zE 1 (hK73 _ _ ?_)
    refine W.sr fun K75 hK75 => ?_
    refine zR 1 ?_
    obtain ⟨r76, h77, hm⟩ := bind_some hm
    refine zC00 hs69 (afree_walk (hab := (hs69.heapAt 1 rfl)) (hib := (hs69.heapAt 2 rfl)) (hbb := (hs69.heapAt 3 rfl)) (hv := (hs69.entAt 4 rfl viewA_at)) (hm := h77) B _) fun w78 hs80 => ?_
    refine zE 5 (hK75 _ _ ?_)
    refine W.seq_join (fun s_ w_ => ∃ (l81 : List (Int × Int)), (∃ us, s_ = slots 193 [(1, (.slice sa ss.length sc)), (5, (.pointer (some ⟨b26, 0, none⟩))), (7, (.int .i64 p35)), (8, (.pointer (some ⟨b45, 0, none⟩)))] us) ∧ St B w [] w_ [blk b26 (.cells [(.int .i64 1), (.int .i64 (2 + 1 % 20)), (.int .i64 (2 + b_ % 60))].toArray 23 (0, 0)), viewA (ptr b45) q34 l81, blk b66 (.cells [(.int .u8 ((ss.getD p35.toNat dSt14).c0)), (.int .i64 ((ss.getD p35.toNat dSt14).c1)), (.int .u64 ((ss.getD p35.toNat dSt14).c2)), (.int .u64 ((ss.getD p35.toNat dSt14).c3)), (.string ((ss.getD p35.toNat dSt14).c4)), (.bool ((ss.getD p35.toNat dSt14).c5))].toArray 75 (0, 0)), blk b54 (.cells [(.pointer (some ⟨b45, 0, none⟩)), (.int .i64 (placeOf 6 1 (2 + 1 % 20) (2 + b_ % 60) 0)), (.int .i64 (2 + 1 % 20))].toArray 136 (0, 0)), blk b55 (.cells [(.pointer (some ⟨b45, 0, none⟩)), (.int .i64 (placeOf 7 1 (2 + 1 % 20) (2 + b_ % 60) 0)), (.int .i64 (2 + b_ % 60))].toArray 136 (0, 0)), blk b53 (.cells [(.pointer (some ⟨b45, 0, none⟩)), (.int .i64 1), (.int .i64 (2 + 1 % 20)), (.int .i64 (2 + b_ % 60)), (.pointer (some ⟨b54, 0, none⟩)), (.int .i64 (2 + 1 % 20)), (.pointer (some ⟨b55, 0, none⟩)), (.int .i64 (2 + b_ % 60))].toArray 114 (0, 0)), kU64.row m32 m33 q34] ∧ datacounts_J2 b_ k36 q34 p35 l81 = some true) ?_ ?_
    ·
     rintro _ w82 ⟨l81, ⟨us, rfl⟩, hs83, hm⟩
     unfold datacounts_J2 at hm
     refine W.sr fun K84 hK84 => ?_
     refine zR 1 ?_
     refine ops_R (runs_loadAgg (ad := ⟨b26, 0, none⟩) (cs := [(.int .i64 1), (.int .i64 (2 + 1 % 20)), (.int .i64 (2 + b_ % 60))]) (by kernel_rfl) (cells_sub (hs83.heapAt 0 rfl) rfl)) ?_
     rcases Bool.eq_false_or_eq_true (decide ((igetM q34 l81 1 (2 + 1 % 20) (2 + b_ % 60) 2).2 = 0)) with h85 | h85
     ·
      obtain ⟨h85p, hm⟩ := iY hm h85
      refine ops_call0 hs83 (by kernel_rfl) (bof_ok (gw := 1) (gi := (2 + 1 % 20)) (gb := (2 + b_ % 60)) (n_ := 2) (hv := (hs83.entAt 1 rfl viewA_at)) (hP := h85p) B _) ?_
      rintro _ _ w87 ⟨b86, rfl, rfl⟩ hs88
      have hs89 := St.ap1 hs88
      refine zE 5 (hK84 _ _ ?_)
      refine W.sr fun K90 hK90 => ?_
      refine zR 1 ?_
      refine ops_R (runs_loadAgg (ad := ⟨b26, 0, none⟩) (cs := [(.int .i64 1), (.int .i64 (2 + 1 % 20)), (.int .i64 (2 + b_ % 60))]) (by kernel_rfl) (cells_sub (hs89.heapAt 1 rfl) rfl)) ?_
      obtain ⟨r91, h92, hm⟩ := bind_some hm
      replace h92 := some_inj h92
      refine ops_call0 hs89 (by kernel_rfl) (ig_spec (gw := 1) (gi := (2 + 1 % 20)) (gb := (2 + b_ % 60)) (n_ := 2) (hv := (hs89.entAt 2 rfl viewA_at)) B _) ?_
      rintro _ _ w93 ⟨hv95, hH96⟩ hs94
      rw [h92] at hv95
      try rw [h92] at hH96
      subst hv95 hH96
      have hs97 := St.ap0 hs94
      refine zR 3 ?_
      refine zN [(.int .u64 0), (.int .u64 0), (.int .u64 0), (.int .u64 0), (.int .u64 0), (.int .u64 0), (.int .u64 0), (.int .u64 0), (.int .u64 0), (.int .u64 0)] 78 hs97 fun b100 w98 hs99 => ?_
      refine ops_store (off := 0) (cs := [(.int .u64 0), (.int .u64 0), (.int .u64 0), (.int .u64 0), (.int .u64 0), (.int .u64 0), (.int .u64 0), (.int .u64 0), (.int .u64 0), (.int .u64 0)]) (vs := [(.int .u64 r91.1.k), (.int .u64 r91.1.l), (.int .u64 r91.1.o), (.int .u64 r91.1.s), (.int .u64 r91.1.a), (.int .u64 r91.1.b), (.int .u64 r91.1.c), (.int .u64 r91.1.d), (.int .u64 r91.1.e), (.int .u64 r91.1.m)]) hs99 (by kernel_rfl) (by simp) rfl (fun w101 hs102 => ?_)
      have hs103 : St B w [] w101 [blk b100 (.cells [(.int .u64 r91.1.k), (.int .u64 r91.1.l), (.int .u64 r91.1.o), (.int .u64 r91.1.s), (.int .u64 r91.1.a), (.int .u64 r91.1.b), (.int .u64 r91.1.c), (.int .u64 r91.1.d), (.int .u64 r91.1.e), (.int .u64 r91.1.m)].toArray 78 (0, 0)), blk b86 (.cells [(.pointer (some ⟨b45, 0, none⟩)), (.int .i64 1), (.int .i64 (2 + 1 % 20)), (.int .i64 (2 + b_ % 60)), (.int .i64 2)].toArray 85 (0, 0)), blk b26 (.cells [(.int .i64 1), (.int .i64 (2 + 1 % 20)), (.int .i64 (2 + b_ % 60))].toArray 23 (0, 0)), viewA (ptr b45) q34 l81, blk b66 (.cells [(.int .u8 ((ss.getD p35.toNat dSt14).c0)), (.int .i64 ((ss.getD p35.toNat dSt14).c1)), (.int .u64 ((ss.getD p35.toNat dSt14).c2)), (.int .u64 ((ss.getD p35.toNat dSt14).c3)), (.string ((ss.getD p35.toNat dSt14).c4)), (.bool ((ss.getD p35.toNat dSt14).c5))].toArray 75 (0, 0)), blk b54 (.cells [(.pointer (some ⟨b45, 0, none⟩)), (.int .i64 (placeOf 6 1 (2 + 1 % 20) (2 + b_ % 60) 0)), (.int .i64 (2 + 1 % 20))].toArray 136 (0, 0)), blk b55 (.cells [(.pointer (some ⟨b45, 0, none⟩)), (.int .i64 (placeOf 7 1 (2 + 1 % 20) (2 + b_ % 60) 0)), (.int .i64 (2 + b_ % 60))].toArray 136 (0, 0)), blk b53 (.cells [(.pointer (some ⟨b45, 0, none⟩)), (.int .i64 1), (.int .i64 (2 + 1 % 20)), (.int .i64 (2 + b_ % 60)), (.pointer (some ⟨b54, 0, none⟩)), (.int .i64 (2 + 1 % 20)), (.pointer (some ⟨b55, 0, none⟩)), (.int .i64 (2 + b_ % 60))].toArray 114 (0, 0)), kU64.row m32 m33 q34] := hs102
      refine zE 1 (hK90 _ _ ?_)
      refine W.seq fun K104 hK104 => ?_
      refine W.sr fun K105 hK105 => ?_
      refine zE 10 (hK105 _ _ ?_)
      refine W.cond (!decide (r91.2 = 0)) (by kernel_rfl) (fun h106 => ?_) (fun h106 => ?_)
      rotate_left
      ·
       have h106p : r91.2 = 0 := of_decide_eq_true (bnot_false h106)
       replace hm := ite_yes hm h106p
       refine W.skip ?_
       refine hK104 _ _ ?_
       refine W.seq_join (fun s_ w_ => (∃ us, s_ = slots 193 [(1, (.slice sa ss.length sc)), (5, (.pointer (some ⟨b26, 0, none⟩))), (7, (.int .i64 p35)), (8, (.pointer (some ⟨b45, 0, none⟩)))] us) ∧ St B w [] w_ [blk b26 (.cells [(.int .i64 1), (.int .i64 (2 + 1 % 20)), (.int .i64 (2 + b_ % 60))].toArray 23 (0, 0)), viewA (ptr b45) q34 l81, blk b100 (.cells [(.int .u64 r91.1.k), (.int .u64 r91.1.l), (.int .u64 r91.1.o), (.int .u64 r91.1.s), (.int .u64 r91.1.a), (.int .u64 r91.1.b), (.int .u64 r91.1.c), (.int .u64 r91.1.d), (.int .u64 r91.1.e), (.int .u64 r91.1.m)].toArray 78 (0, 0)), blk b86 (.cells [(.pointer (some ⟨b45, 0, none⟩)), (.int .i64 1), (.int .i64 (2 + 1 % 20)), (.int .i64 (2 + b_ % 60)), (.int .i64 2)].toArray 85 (0, 0)), blk b66 (.cells [(.int .u8 ((ss.getD p35.toNat dSt14).c0)), (.int .i64 ((ss.getD p35.toNat dSt14).c1)), (.int .u64 ((ss.getD p35.toNat dSt14).c2)), (.int .u64 ((ss.getD p35.toNat dSt14).c3)), (.string ((ss.getD p35.toNat dSt14).c4)), (.bool ((ss.getD p35.toNat dSt14).c5))].toArray 75 (0, 0)), blk b54 (.cells [(.pointer (some ⟨b45, 0, none⟩)), (.int .i64 (placeOf 6 1 (2 + 1 % 20) (2 + b_ % 60) 0)), (.int .i64 (2 + 1 % 20))].toArray 136 (0, 0)), blk b55 (.cells [(.pointer (some ⟨b45, 0, none⟩)), (.int .i64 (placeOf 7 1 (2 + 1 % 20) (2 + b_ % 60) 0)), (.int .i64 (2 + b_ % 60))].toArray 136 (0, 0)), blk b53 (.cells [(.pointer (some ⟨b45, 0, none⟩)), (.int .i64 1), (.int .i64 (2 + 1 % 20)), (.int .i64 (2 + b_ % 60)), (.pointer (some ⟨b54, 0, none⟩)), (.int .i64 (2 + 1 % 20)), (.pointer (some ⟨b55, 0, none⟩)), (.int .i64 (2 + b_ % 60))].toArray 114 (0, 0)), kU64.row m32 m33 q34] ∧ datacounts_J3 b_ k36 q34 p35 l81 = some true) ?_ ?_
       ·
        rintro _ w107 ⟨⟨us, rfl⟩, hs108, hm⟩
        unfold datacounts_J3 at hm
        refine W.sr fun K109 hK109 => ?_
        refine zR 1 ?_
        refine ops_call0 hs108 (by kernel_rfl) (flat_spec (hv := (hs108.entAt 1 rfl viewA_at)) B _) ?_
        rintro _ _ w112 ⟨a110, c111, rfl, rfl⟩ hs113
        have hs114 := St.ap1 hs113
        refine zE 1 (hK109 _ _ ?_)
        refine W.sr fun K115 hK115 => ?_
        refine zR 2 ?_
        refine ops_R (runs_loadAgg (ad := ⟨b26, 0, none⟩) (cs := [(.int .i64 1), (.int .i64 (2 + 1 % 20)), (.int .i64 (2 + b_ % 60))]) (by kernel_rfl) (cells_sub (hs114.heapAt 1 rfl) rfl)) ?_
        obtain ⟨r116, h117, hm⟩ := bind_some hm
        replace h117 := some_inj h117
        refine ops_call0 hs114 (by kernel_rfl) (lwords_spec (gw := 1) (gi := (2 + 1 % 20)) (gb := (2 + b_ % 60)) B _) ?_
        rintro _ _ w118 ⟨hv120, hH121⟩ hs119
        rw [h117] at hv120
        try rw [h117] at hH121
        subst hv120 hH121
        have hs122 := St.ap0 hs119
        refine zE 1 (hK115 _ _ ?_)
        refine W.cond (!decide ((((vflat q34 l81).length) : Int) = r116)) (by kernel_rfl) (fun h123 => ?_) (fun h123 => ?_)
        rotate_left
        ·
         have h123p : (((vflat q34 l81).length) : Int) = r116 := of_decide_eq_true (bnot_false h123)
         replace hm := ite_yes hm h123p
         refine W.skip ?_
         refine normal_block ?_
         refine hK43 _ _ ?_
         refine W.region ?_
         refine zR 1 ?_
         obtain ⟨h124, hm⟩ := need_some hm
         refine zI _ (wrap_i64 h124.1 h124.2) ?_
         refine zE 1 ?_
         have hs125 := St.f1 hs122
         have hs126 := St.tk2 hs125
         refine loopAt_next ?_
         exact ih37 ((vflat q34 l81), (p35 + 1), a110, c111) _ _ ⟨slots_intro _ (by kernel_rfl), hs126⟩ hm
        ·
         have h123p : ¬ ((((vflat q34 l81).length) : Int) = r116) := of_decide_eq_false (bnot_true h123)
         replace hm := ite_no hm h123p
         refine W.sr fun K127 hK127 => ?_
         refine zE 1 (hK127 _ _ ?_)
         refine W.ret (ret_block (ret_seq (ret_seq (ret_block (ret_seq ?_)))))
         have hs128 := St.tk0 hs122
         refine ret_of (.bool false) (by kernel_rfl) ⟨_, ⟨congrArg Value.bool (some_inj hm), rfl⟩, hs128⟩
       ·
        refine W.sr fun K129 hK129 => ?_
        refine zR 1 ?_
        refine zL ⟨b100, 3, none⟩ (.int .u64 r91.1.s) (hs103.cellAt 0 rfl rfl) ?_
        refine ops_val (v := .int .u64 (IntKind.u64.wrap (r91.1.s + 63))) (v' := .int .u64 ((r91.1.s + 63) % 18446744073709551616)) (by kernel_rfl) (congrArg (Value.int .u64) (wrap_u64_mod _)) ?_
        obtain ⟨h130, hm⟩ := need_some hm
        refine zI _ (wrap_i64 h130.1 h130.2) ?_
        obtain ⟨h131, hm⟩ := need_some hm
        refine ops_R (v := .int .i64 (((r91.1.s + 63) % 18446744073709551616).tdiv 64)) (runs_quo (k := .i64) (a := ((r91.1.s + 63) % 18446744073709551616)) (b := 64) (by kernel_rfl) (by decide) (wrap_i64 h131.1 h131.2)) ?_
        refine zR 1 ?_
        obtain ⟨r132, h133, hm⟩ := bind_some hm
        replace h133 := some_inj h133
        refine ops_set 24 (v := .int .i64 r132) (Eq.trans (by kernel_rfl) (congrArg (Value.int .i64) h133)) ?_
        refine zD (hK129 _ _ ?_)
        refine W.block ?_
        have hs139 := St.f8 hs103
        have hs140 := St.f8 hs139
        have hs141 := St.f8 hs140
        have hs142 := St.f8 hs141
        have hs143 := St.f8 hs142
        have hs144 := St.f5 hs143
        have hs145 := St.f6 hs144
        have hs146 := St.f8 hs145
        have hs147 := St.f8 hs146
        refine W.loop_iter (G := Int) (σ := Int) (fun | p134 => p134) (fun | p134, s_, w_ => (∃ us, s_ = slots 193 [(1, (.slice sa ss.length sc)), (5, (.pointer (some ⟨b26, 0, none⟩))), (7, (.int .i64 p35)), (8, (.pointer (some ⟨b45, 0, none⟩))), (20, (.pointer (some ⟨b86, 0, none⟩))), (24, (.int .i64 p134))] us) ∧ St B w [] w_ [blk b26 (.cells [(.int .i64 1), (.int .i64 (2 + 1 % 20)), (.int .i64 (2 + b_ % 60))].toArray 23 (0, 0)), viewA (ptr b45) q34 l81, blk b86 (.cells [(.pointer (some ⟨b45, 0, none⟩)), (.int .i64 1), (.int .i64 (2 + 1 % 20)), (.int .i64 (2 + b_ % 60)), (.int .i64 2)].toArray 85 (0, 0)), blk b100 (.cells [(.int .u64 r91.1.k), (.int .u64 r91.1.l), (.int .u64 r91.1.o), (.int .u64 r91.1.s), (.int .u64 r91.1.a), (.int .u64 r91.1.b), (.int .u64 r91.1.c), (.int .u64 r91.1.d), (.int .u64 r91.1.e), (.int .u64 r91.1.m)].toArray 78 (0, 0)), blk b66 (.cells [(.int .u8 ((ss.getD p35.toNat dSt14).c0)), (.int .i64 ((ss.getD p35.toNat dSt14).c1)), (.int .u64 ((ss.getD p35.toNat dSt14).c2)), (.int .u64 ((ss.getD p35.toNat dSt14).c3)), (.string ((ss.getD p35.toNat dSt14).c4)), (.bool ((ss.getD p35.toNat dSt14).c5))].toArray 75 (0, 0)), blk b54 (.cells [(.pointer (some ⟨b45, 0, none⟩)), (.int .i64 (placeOf 6 1 (2 + 1 % 20) (2 + b_ % 60) 0)), (.int .i64 (2 + 1 % 20))].toArray 136 (0, 0)), blk b55 (.cells [(.pointer (some ⟨b45, 0, none⟩)), (.int .i64 (placeOf 7 1 (2 + 1 % 20) (2 + b_ % 60) 0)), (.int .i64 (2 + b_ % 60))].toArray 136 (0, 0)), blk b53 (.cells [(.pointer (some ⟨b45, 0, none⟩)), (.int .i64 1), (.int .i64 (2 + 1 % 20)), (.int .i64 (2 + b_ % 60)), (.pointer (some ⟨b54, 0, none⟩)), (.int .i64 (2 + 1 % 20)), (.pointer (some ⟨b55, 0, none⟩)), (.int .i64 (2 + b_ % 60))].toArray 114 (0, 0)), kU64.row m32 m33 q34]) r132 ⟨slots_intro _ (by kernel_rfl), hs147⟩ hm ?_
        rintro k135 ih136 p134 _ w137 ⟨⟨us, rfl⟩, hs138⟩ hm
        replace hm : datacounts_B1 b_ k36 q34 p35 l81 k135 p134 = some true := hm
        unfold datacounts_B1 at hm
        refine W.seq fun K148 hK148 => ?_
        refine W.sr fun K149 hK149 => ?_
        refine zE 2 (hK149 _ _ ?_)
        refine W.cond (decide (p134 < 12)) (by kernel_rfl) (fun h150 => ?_) (fun h150 => ?_)
        ·
         obtain ⟨h150p, hm⟩ := iY hm h150
         refine W.skip ?_
         refine hK148 _ _ ?_
         refine W.seq fun K151 hK151 => ?_
         refine W.block ?_
         refine W.sr fun K152 hK152 => ?_
         refine zR 2 ?_
         obtain ⟨r153, h154, hm⟩ := bind_some hm
         refine zC00 hs138 (bat_walk (k_ := p134) (img := q34) (l := l81) (gw := 1) (gi := (2 + 1 % 20)) (gb := (2 + b_ % 60)) (n_ := 2) (hmb := (hs138.heapAt 2 rfl)) (hv := (hs138.entAt 1 rfl viewA_at)) (hm := h154) B _) fun w155 hs157 => ?_
         refine zE 5 (hK152 _ _ ?_)
         refine W.sr fun K158 hK158 => ?_
         refine zR 3 ?_
         rcases Bool.eq_false_or_eq_true (!decide (r153.1 = 0)) with h159 | h159
         rotate_left
         ·
          have h159p : r153.1 = 0 := of_decide_eq_true (bnot_false h159)
          replace hm := ite_yes hm h159p
          refine zS 181 h159 ?_
          refine zS 180 h159 ?_
          refine zE 3 (hK158 _ _ ?_)
          refine W.cond (!decide (r153.2 = 0)) (by kernel_rfl) (fun h160 => ?_) (fun h160 => ?_)
          rotate_left
          ·
           have h160p : r153.2 = 0 := of_decide_eq_true (bnot_false h160)
           replace hm := ite_yes hm h160p
           refine W.skip ?_
           refine normal_block ?_
           refine hK151 _ _ ?_
           refine W.region ?_
           refine zR 1 ?_
           obtain ⟨h161, hm⟩ := need_some hm
           refine zI _ (wrap_i64 h161.1 h161.2) ?_
           refine zE 1 ?_
           refine loopAt_next ?_
           exact ih136 (p134 + 1) _ _ ⟨slots_intro _ (by kernel_rfl), hs157⟩ hm
          ·
           have h160p : ¬ (r153.2 = 0) := of_decide_eq_false (bnot_true h160)
           replace hm := ite_no hm h160p
           refine W.sr fun K162 hK162 => ?_
           refine zE 1 (hK162 _ _ ?_)
           refine W.ret (ret_block (ret_seq (ret_seq (ret_block (ret_seq (ret_block (ret_seq (ret_seq (ret_block (ret_seq ?_))))))))))
           have hs163 := St.tk0 hs157
           refine ret_of (.bool false) (by kernel_rfl) ⟨_, ⟨congrArg Value.bool (some_inj hm), rfl⟩, hs163⟩
         ·
          have h159p : ¬ (r153.1 = 0) := of_decide_eq_false (bnot_true h159)
          replace hm := ite_no hm h159p
          refine zS 181 h159 ?_
          refine zS 180 h159 ?_
          refine zE 3 (hK158 _ _ ?_)
          refine W.cond_true true (by kernel_rfl) rfl ?_
          refine W.sr fun K164 hK164 => ?_
          refine zE 1 (hK164 _ _ ?_)
          refine W.ret (ret_block (ret_seq (ret_seq (ret_block (ret_seq (ret_block (ret_seq (ret_seq (ret_block (ret_seq ?_))))))))))
          have hs165 := St.tk0 hs157
          refine ret_of (.bool false) (by kernel_rfl) ⟨_, ⟨congrArg Value.bool (some_inj hm), rfl⟩, hs165⟩
        ·
         obtain ⟨h150p, hm⟩ := iN hm h150
         refine W.exit (exit_seq (exit_seq (exit_here ?_)))
         have hs166 := St.f8 hs138
         have hs167 := St.f8 hs166
         have hs168 := St.f8 hs167
         have hs169 := St.f8 hs168
         have hs170 := St.f8 hs169
         have hs171 := St.f7 hs170
         have hs172 := St.f8 hs171
         have hs173 := St.f8 hs172
         have hs174 := St.f8 hs173
         exact ⟨slots_intro _ (by kernel_rfl), hs174, hm⟩
      ·
       have h106p : ¬ (r91.2 = 0) := of_decide_eq_false (bnot_true h106)
       replace hm := ite_no hm h106p
       refine W.sr fun K175 hK175 => ?_
       refine zE 1 (hK175 _ _ ?_)
       refine W.ret (ret_seq (ret_block (ret_seq (ret_seq (ret_block (ret_seq ?_))))))
       have hs176 := St.tk0 hs103
       refine ret_of (.bool false) (by kernel_rfl) ⟨_, ⟨congrArg Value.bool (some_inj hm), rfl⟩, hs176⟩
     ·
      obtain ⟨h85p, hm⟩ := iN hm h85
      refine zC00 hs83 (bof_err (gw := 1) (gi := (2 + 1 % 20)) (gb := (2 + b_ % 60)) (n_ := 2) (hv := (hs83.entAt 1 rfl viewA_at)) (hN := h85p) B _) fun w177 hs179 => ?_
      refine zR 5 ?_
      obtain ⟨r180, h181, hm⟩ := bind_some hm
      replace h181 := some_inj h181
      refine ops_set 21 (v := .int .i64 r180) (Eq.trans (by kernel_rfl) (congrArg (Value.int .i64) h181)) ?_
      refine zD (hK84 _ _ ?_)
      refine W.sr fun K182 hK182 => ?_
      refine zR 1 ?_
      refine ops_R (runs_loadAgg (ad := ⟨b26, 0, none⟩) (cs := [(.int .i64 1), (.int .i64 (2 + 1 % 20)), (.int .i64 (2 + b_ % 60))]) (by kernel_rfl) (cells_sub (hs179.heapAt 0 rfl) rfl)) ?_
      obtain ⟨r183, h184, hm⟩ := bind_some hm
      replace h184 := some_inj h184
      refine ops_call0 hs179 (by kernel_rfl) (ig_spec (gw := 1) (gi := (2 + 1 % 20)) (gb := (2 + b_ % 60)) (n_ := 2) (hv := (hs179.entAt 1 rfl viewA_at)) B _) ?_
      rintro _ _ w185 ⟨hv187, hH188⟩ hs186
      rw [h184] at hv187
      try rw [h184] at hH188
      subst hv187 hH188
      have hs189 := St.ap0 hs186
      refine zR 3 ?_
      refine zN [(.int .u64 0), (.int .u64 0), (.int .u64 0), (.int .u64 0), (.int .u64 0), (.int .u64 0), (.int .u64 0), (.int .u64 0), (.int .u64 0), (.int .u64 0)] 78 hs189 fun b192 w190 hs191 => ?_
      refine ops_store (off := 0) (cs := [(.int .u64 0), (.int .u64 0), (.int .u64 0), (.int .u64 0), (.int .u64 0), (.int .u64 0), (.int .u64 0), (.int .u64 0), (.int .u64 0), (.int .u64 0)]) (vs := [(.int .u64 r183.1.k), (.int .u64 r183.1.l), (.int .u64 r183.1.o), (.int .u64 r183.1.s), (.int .u64 r183.1.a), (.int .u64 r183.1.b), (.int .u64 r183.1.c), (.int .u64 r183.1.d), (.int .u64 r183.1.e), (.int .u64 r183.1.m)]) hs191 (by kernel_rfl) (by simp) rfl (fun w193 hs194 => ?_)
      have hs195 : St B w [] w193 [blk b192 (.cells [(.int .u64 r183.1.k), (.int .u64 r183.1.l), (.int .u64 r183.1.o), (.int .u64 r183.1.s), (.int .u64 r183.1.a), (.int .u64 r183.1.b), (.int .u64 r183.1.c), (.int .u64 r183.1.d), (.int .u64 r183.1.e), (.int .u64 r183.1.m)].toArray 78 (0, 0)), blk b26 (.cells [(.int .i64 1), (.int .i64 (2 + 1 % 20)), (.int .i64 (2 + b_ % 60))].toArray 23 (0, 0)), viewA (ptr b45) q34 l81, blk b66 (.cells [(.int .u8 ((ss.getD p35.toNat dSt14).c0)), (.int .i64 ((ss.getD p35.toNat dSt14).c1)), (.int .u64 ((ss.getD p35.toNat dSt14).c2)), (.int .u64 ((ss.getD p35.toNat dSt14).c3)), (.string ((ss.getD p35.toNat dSt14).c4)), (.bool ((ss.getD p35.toNat dSt14).c5))].toArray 75 (0, 0)), blk b54 (.cells [(.pointer (some ⟨b45, 0, none⟩)), (.int .i64 (placeOf 6 1 (2 + 1 % 20) (2 + b_ % 60) 0)), (.int .i64 (2 + 1 % 20))].toArray 136 (0, 0)), blk b55 (.cells [(.pointer (some ⟨b45, 0, none⟩)), (.int .i64 (placeOf 7 1 (2 + 1 % 20) (2 + b_ % 60) 0)), (.int .i64 (2 + b_ % 60))].toArray 136 (0, 0)), blk b53 (.cells [(.pointer (some ⟨b45, 0, none⟩)), (.int .i64 1), (.int .i64 (2 + 1 % 20)), (.int .i64 (2 + b_ % 60)), (.pointer (some ⟨b54, 0, none⟩)), (.int .i64 (2 + 1 % 20)), (.pointer (some ⟨b55, 0, none⟩)), (.int .i64 (2 + b_ % 60))].toArray 114 (0, 0)), kU64.row m32 m33 q34] := hs194
      refine zE 1 (hK182 _ _ ?_)
      refine W.seq fun K196 hK196 => ?_
      refine W.sr fun K197 hK197 => ?_
      refine zE 10 (hK197 _ _ ?_)
      refine W.cond_true true (by kernel_rfl) rfl ?_
      refine W.sr fun K198 hK198 => ?_
      refine zE 1 (hK198 _ _ ?_)
      refine W.ret (ret_seq (ret_block (ret_seq (ret_seq (ret_block (ret_seq ?_))))))
      have hs199 := St.tk0 hs195
      refine ret_of (.bool false) (by kernel_rfl) ⟨_, ⟨congrArg Value.bool (some_inj hm), rfl⟩, hs199⟩
    ·
     refine W.sr fun K200 hK200 => ?_
     refine zR 1 ?_
     refine zL ⟨b66, 0, none⟩ (.int .u8 ((ss.getD p35.toNat dSt14).c0)) (hs80.cellAt 0 rfl rfl) ?_
     refine zE 2 (hK200 _ _ ?_)
     refine W.cond (decide (((ss.getD p35.toNat dSt14).c0).tmod 2 = 0)) (by kernel_rfl) (fun h201 => ?_) (fun h201 => ?_)
     ·
      obtain ⟨h201p, hm⟩ := iY hm h201
      refine W.sr fun K202 hK202 => ?_
      refine zR 1 ?_
      refine ops_R (runs_loadAgg (ad := ⟨b26, 0, none⟩) (cs := [(.int .i64 1), (.int .i64 (2 + 1 % 20)), (.int .i64 (2 + b_ % 60))]) (by kernel_rfl) (cells_sub (hs80.heapAt 5 rfl) rfl)) ?_
      refine zR 3 ?_
      obtain ⟨r203, h204, hm⟩ := bind_some hm
      have hs205 := St.f4 hs80
      refine zC11 hs205 (dNeed_walk (vb := b45) (img := q34) (l := []) (gw := 1) (gi := (2 + 1 % 20)) (gb := (2 + b_ % 60)) (n_ := 2) (at_ := r71) (ma_ := ((((ss.getD p35.toNat dSt14).c4).extract 0 ((mn (((ss.getD p35.toNat dSt14).c4).size : Int) 128).toNat)).size : Int)) (hm := h204) B _) fun w206 hs208 => ?_
      refine zE 1 (hK202 _ _ ?_)
      refine W.sr fun K209 hK209 => ?_
      refine zR 1 ?_
      refine ops_R (runs_loadAgg (ad := ⟨b26, 0, none⟩) (cs := [(.int .i64 1), (.int .i64 (2 + 1 % 20)), (.int .i64 (2 + b_ % 60))]) (by kernel_rfl) (cells_sub (hs208.heapAt 5 rfl) rfl)) ?_
      refine zR 2 ?_
      obtain ⟨r210, h211, hm⟩ := bind_some hm
      refine zC11 hs208 (dWrite_walk (vb := b45) (hG := hG) (hT := (hs208.oldCells hT)) (img := q34) (l := []) (gw := 1) (gi := (2 + 1 % 20)) (gb := (2 + b_ % 60)) (n_ := 2) (at_ := r71) (tx_ := (((ss.getD p35.toNat dSt14).c4).extract 0 ((mn (((ss.getD p35.toNat dSt14).c4).size : Int) 128).toNat))) (hm := h211) B _) fun w212 hs214 => ?_
      refine zE 1 (hK209 _ _ ?_)
      refine W.sr fun K215 hK215 => ?_
      refine zR 1 ?_
      obtain ⟨r216, h217, hm⟩ := bind_some hm
      refine zC00 hs214 (afree_walk (hab := (hs214.heapAt 2 rfl)) (hib := (hs214.heapAt 3 rfl)) (hbb := (hs214.heapAt 4 rfl)) (hv := (hs214.entAt 0 rfl viewA_at)) (hm := h217) B _) fun w218 hs220 => ?_
      refine zE 5 (hK215 _ _ ?_)
      refine W.sr fun K221 hK221 => ?_
      refine zR 7 ?_
      rcases Bool.eq_false_or_eq_true (!((decide (r210.1 = 7)) == (decide (r203 > r76.2)))) with h222 | h222
      rotate_left
      ·
       have h222p : ((r210.1 = 7) ↔ (r203 > r76.2)) := beq_yes decide_eq_true_iff decide_eq_true_iff (bnot_false h222)
       replace hm := ite_yes hm h222p
       refine zS 104 h222 ?_
       refine zS 103 h222 ?_
       refine zR 3 ?_
       rcases Bool.eq_false_or_eq_true (decide (r210.1 = 0)) with h223 | h223
       ·
        obtain ⟨h223p, hm⟩ := iY hm h223
        refine zS 107 h223 ?_
        refine zS 106 h223 ?_
        refine zR 3 ?_
        obtain ⟨h224, hm⟩ := need_some hm
        refine zI _ (wrap_i64 h224.1 h224.2) ?_
        refine zR 4 ?_
        rcases Bool.eq_false_or_eq_true (!decide (r216.2 = (r76.2 - r203))) with h225 | h225
        rotate_left
        ·
         have h225p : r216.2 = (r76.2 - r203) := of_decide_eq_true (bnot_false h225)
         replace hm := ite_yes hm h225p
         refine zS 115 h225 ?_
         refine zS 112 h225 ?_
         refine zS 113 h225 ?_
         refine zS 114 h225 ?_
         refine zR 3 ?_
         rcases Bool.eq_false_or_eq_true (!decide (r210.1 = 0)) with h226 | h226
         rotate_left
         ·
          have h226p : r210.1 = 0 := of_decide_eq_true (bnot_false h226)
          replace hm := ite_yes hm h226p
          refine zS 118 h226 ?_
          refine zS 117 h226 ?_
          refine zR 7 ?_
          refine ops_R (runs_loadAgg (ad := ⟨b26, 0, none⟩) (cs := [(.int .i64 1), (.int .i64 (2 + 1 % 20)), (.int .i64 (2 + b_ % 60))]) (by kernel_rfl) (cells_sub (hs220.heapAt 5 rfl) rfl)) ?_
          refine zR 3 ?_
          obtain ⟨r227, h228, hm⟩ := bind_some hm
          refine zC11 hs220 (dNeed_walk (vb := b45) (img := q34) (l := r210.2) (gw := 1) (gi := (2 + 1 % 20)) (gb := (2 + b_ % 60)) (n_ := 2) (at_ := r71) (ma_ := ((((ss.getD p35.toNat dSt14).c4).extract 0 ((mn (((ss.getD p35.toNat dSt14).c4).size : Int) 128).toNat)).size : Int)) (hm := h228) B _) fun w229 hs231 => ?_
          refine zR 2 ?_
          rcases Bool.eq_false_or_eq_true (!decide (r227 = 0)) with h232 | h232
          rotate_left
          ·
           have h232p : r227 = 0 := of_decide_eq_true (bnot_false h232)
           replace hm := ite_yes hm h232p
           refine zS 132 h232 ?_
           refine zS 131 h232 ?_
           refine zE 4 (hK221 _ _ ?_)
           refine W.cond_false false (by kernel_rfl) rfl ?_
           refine W.skip ?_
           have hs233 := St.f6 hs231
           have hs234 := St.f3 hs233
           have hs235 := St.f5 hs234
           have hs236 := St.f5 hs235
           have hs237 := St.f5 hs236
           have hs238 := St.f5 hs237
           have hs239 := St.f6 hs238
           exact ⟨r210.2, slots_intro _ (by kernel_rfl), hs239, hm⟩
          ·
           have h232p : ¬ (r227 = 0) := of_decide_eq_false (bnot_true h232)
           replace hm := ite_no hm h232p
           refine zS 132 h232 ?_
           refine zS 131 h232 ?_
           refine zE 4 (hK221 _ _ ?_)
           refine W.cond (decide (r210.1 = 0)) (by kernel_rfl) (fun h240 => ?_) (fun h240 => ?_)
           ·
            obtain ⟨h240p, hm⟩ := iY hm h240
            refine W.sr fun K241 hK241 => ?_
            refine zE 1 (hK241 _ _ ?_)
            refine W.ret (ret_seq (ret_block (ret_seq (ret_seq (ret_block (ret_seq ?_))))))
            have hs242 := St.tk0 hs231
            refine ret_of (.bool false) (by kernel_rfl) ⟨_, ⟨congrArg Value.bool (some_inj hm), rfl⟩, hs242⟩
           ·
            obtain ⟨h240p, hm⟩ := iN hm h240
            refine W.skip ?_
            have hs243 := St.f6 hs231
            have hs244 := St.f3 hs243
            have hs245 := St.f5 hs244
            have hs246 := St.f5 hs245
            have hs247 := St.f5 hs246
            have hs248 := St.f5 hs247
            have hs249 := St.f6 hs248
            exact ⟨r210.2, slots_intro _ (by kernel_rfl), hs249, hm⟩
         ·
          have h226p : ¬ (r210.1 = 0) := of_decide_eq_false (bnot_true h226)
          replace hm := ite_no hm h226p
          refine zS 118 h226 ?_
          refine zS 117 h226 ?_
          refine zR 6 ?_
          rcases Bool.eq_false_or_eq_true (!decide (r216.2 = r76.2)) with h250 | h250
          rotate_left
          ·
           have h250p : r216.2 = r76.2 := of_decide_eq_true (bnot_false h250)
           replace hm := ite_yes hm h250p
           refine zS 124 h250 ?_
           refine zS 121 h250 ?_
           refine zS 122 h250 ?_
           refine zS 123 h250 ?_
           refine zR 1 ?_
           refine ops_R (runs_loadAgg (ad := ⟨b26, 0, none⟩) (cs := [(.int .i64 1), (.int .i64 (2 + 1 % 20)), (.int .i64 (2 + b_ % 60))]) (by kernel_rfl) (cells_sub (hs220.heapAt 5 rfl) rfl)) ?_
           refine zR 3 ?_
           obtain ⟨r251, h252, hm⟩ := bind_some hm
           refine zC11 hs220 (dNeed_walk (vb := b45) (img := q34) (l := r210.2) (gw := 1) (gi := (2 + 1 % 20)) (gb := (2 + b_ % 60)) (n_ := 2) (at_ := r71) (ma_ := ((((ss.getD p35.toNat dSt14).c4).extract 0 ((mn (((ss.getD p35.toNat dSt14).c4).size : Int) 128).toNat)).size : Int)) (hm := h252) B _) fun w253 hs255 => ?_
           refine zR 2 ?_
           rcases Bool.eq_false_or_eq_true (!decide (r251 = 0)) with h256 | h256
           rotate_left
           ·
            have h256p : r251 = 0 := of_decide_eq_true (bnot_false h256)
            replace hm := ite_yes hm h256p
            refine zS 132 h256 ?_
            refine zS 131 h256 ?_
            refine zE 4 (hK221 _ _ ?_)
            refine W.cond_false false (by kernel_rfl) rfl ?_
            refine W.skip ?_
            have hs257 := St.f6 hs255
            have hs258 := St.f3 hs257
            have hs259 := St.f5 hs258
            have hs260 := St.f5 hs259
            have hs261 := St.f5 hs260
            have hs262 := St.f5 hs261
            have hs263 := St.f6 hs262
            exact ⟨r210.2, slots_intro _ (by kernel_rfl), hs263, hm⟩
           ·
            have h256p : ¬ (r251 = 0) := of_decide_eq_false (bnot_true h256)
            replace hm := ite_no hm h256p
            refine zS 132 h256 ?_
            refine zS 131 h256 ?_
            refine zE 4 (hK221 _ _ ?_)
            refine W.cond (decide (r210.1 = 0)) (by kernel_rfl) (fun h264 => ?_) (fun h264 => ?_)
            ·
             obtain ⟨h264p, hm⟩ := iY hm h264
             refine W.sr fun K265 hK265 => ?_
             refine zE 1 (hK265 _ _ ?_)
             refine W.ret (ret_seq (ret_block (ret_seq (ret_seq (ret_block (ret_seq ?_))))))
             have hs266 := St.tk0 hs255
             refine ret_of (.bool false) (by kernel_rfl) ⟨_, ⟨congrArg Value.bool (some_inj hm), rfl⟩, hs266⟩
            ·
             obtain ⟨h264p, hm⟩ := iN hm h264
             refine W.skip ?_
             have hs267 := St.f6 hs255
             have hs268 := St.f3 hs267
             have hs269 := St.f5 hs268
             have hs270 := St.f5 hs269
             have hs271 := St.f5 hs270
             have hs272 := St.f5 hs271
             have hs273 := St.f6 hs272
             exact ⟨r210.2, slots_intro _ (by kernel_rfl), hs273, hm⟩
          ·
           have h250p : ¬ (r216.2 = r76.2) := of_decide_eq_false (bnot_true h250)
           replace hm := ite_no hm h250p
           refine zS 124 h250 ?_
           refine zS 121 h250 ?_
           refine zS 122 h250 ?_
           refine zS 123 h250 ?_
           refine zE 12 (hK221 _ _ ?_)
           refine W.cond_true true (by kernel_rfl) rfl ?_
           refine W.sr fun K274 hK274 => ?_
           refine zE 1 (hK274 _ _ ?_)
           refine W.ret (ret_seq (ret_block (ret_seq (ret_seq (ret_block (ret_seq ?_))))))
           have hs275 := St.tk0 hs220
           refine ret_of (.bool false) (by kernel_rfl) ⟨_, ⟨congrArg Value.bool (some_inj hm), rfl⟩, hs275⟩
        ·
         have h225p : ¬ (r216.2 = (r76.2 - r203)) := of_decide_eq_false (bnot_true h225)
         replace hm := ite_no hm h225p
         refine zS 115 h225 ?_
         refine zS 112 h225 ?_
         refine zS 113 h225 ?_
         refine zS 114 h225 ?_
         refine zE 21 (hK221 _ _ ?_)
         refine W.cond_true true (by kernel_rfl) rfl ?_
         refine W.sr fun K276 hK276 => ?_
         refine zE 1 (hK276 _ _ ?_)
         refine W.ret (ret_seq (ret_block (ret_seq (ret_seq (ret_block (ret_seq ?_))))))
         have hs277 := St.tk0 hs220
         refine ret_of (.bool false) (by kernel_rfl) ⟨_, ⟨congrArg Value.bool (some_inj hm), rfl⟩, hs277⟩
       ·
        obtain ⟨h223p, hm⟩ := iN hm h223
        refine zS 107 h223 ?_
        refine zS 106 h223 ?_
        refine zR 11 ?_
        rcases Bool.eq_false_or_eq_true (!decide (r210.1 = 0)) with h278 | h278
        rotate_left
        ·
         have h278p : r210.1 = 0 := of_decide_eq_true (bnot_false h278)
         replace hm := ite_yes hm h278p
         refine zS 118 h278 ?_
         refine zS 117 h278 ?_
         refine zR 7 ?_
         refine ops_R (runs_loadAgg (ad := ⟨b26, 0, none⟩) (cs := [(.int .i64 1), (.int .i64 (2 + 1 % 20)), (.int .i64 (2 + b_ % 60))]) (by kernel_rfl) (cells_sub (hs220.heapAt 5 rfl) rfl)) ?_
         refine zR 3 ?_
         obtain ⟨r279, h280, hm⟩ := bind_some hm
         refine zC11 hs220 (dNeed_walk (vb := b45) (img := q34) (l := r210.2) (gw := 1) (gi := (2 + 1 % 20)) (gb := (2 + b_ % 60)) (n_ := 2) (at_ := r71) (ma_ := ((((ss.getD p35.toNat dSt14).c4).extract 0 ((mn (((ss.getD p35.toNat dSt14).c4).size : Int) 128).toNat)).size : Int)) (hm := h280) B _) fun w281 hs283 => ?_
         refine zR 2 ?_
         rcases Bool.eq_false_or_eq_true (!decide (r279 = 0)) with h284 | h284
         rotate_left
         ·
          have h284p : r279 = 0 := of_decide_eq_true (bnot_false h284)
          replace hm := ite_yes hm h284p
          refine zS 132 h284 ?_
          refine zS 131 h284 ?_
          refine zE 4 (hK221 _ _ ?_)
          refine W.cond_false false (by kernel_rfl) rfl ?_
          refine W.skip ?_
          have hs285 := St.f6 hs283
          have hs286 := St.f3 hs285
          have hs287 := St.f5 hs286
          have hs288 := St.f5 hs287
          have hs289 := St.f5 hs288
          have hs290 := St.f5 hs289
          have hs291 := St.f6 hs290
          exact ⟨r210.2, slots_intro _ (by kernel_rfl), hs291, hm⟩
         ·
          have h284p : ¬ (r279 = 0) := of_decide_eq_false (bnot_true h284)
          replace hm := ite_no hm h284p
          refine zS 132 h284 ?_
          refine zS 131 h284 ?_
          refine zE 4 (hK221 _ _ ?_)
          refine W.cond (decide (r210.1 = 0)) (by kernel_rfl) (fun h292 => ?_) (fun h292 => ?_)
          ·
           obtain ⟨h292p, hm⟩ := iY hm h292
           refine W.sr fun K293 hK293 => ?_
           refine zE 1 (hK293 _ _ ?_)
           refine W.ret (ret_seq (ret_block (ret_seq (ret_seq (ret_block (ret_seq ?_))))))
           have hs294 := St.tk0 hs283
           refine ret_of (.bool false) (by kernel_rfl) ⟨_, ⟨congrArg Value.bool (some_inj hm), rfl⟩, hs294⟩
          ·
           obtain ⟨h292p, hm⟩ := iN hm h292
           refine W.skip ?_
           have hs295 := St.f6 hs283
           have hs296 := St.f3 hs295
           have hs297 := St.f5 hs296
           have hs298 := St.f5 hs297
           have hs299 := St.f5 hs298
           have hs300 := St.f5 hs299
           have hs301 := St.f6 hs300
           exact ⟨r210.2, slots_intro _ (by kernel_rfl), hs301, hm⟩
        ·
         have h278p : ¬ (r210.1 = 0) := of_decide_eq_false (bnot_true h278)
         replace hm := ite_no hm h278p
         refine zS 118 h278 ?_
         refine zS 117 h278 ?_
         refine zR 6 ?_
         rcases Bool.eq_false_or_eq_true (!decide (r216.2 = r76.2)) with h302 | h302
         rotate_left
         ·
          have h302p : r216.2 = r76.2 := of_decide_eq_true (bnot_false h302)
          replace hm := ite_yes hm h302p
          refine zS 124 h302 ?_
          refine zS 121 h302 ?_
          refine zS 122 h302 ?_
          refine zS 123 h302 ?_
          refine zR 1 ?_
          refine ops_R (runs_loadAgg (ad := ⟨b26, 0, none⟩) (cs := [(.int .i64 1), (.int .i64 (2 + 1 % 20)), (.int .i64 (2 + b_ % 60))]) (by kernel_rfl) (cells_sub (hs220.heapAt 5 rfl) rfl)) ?_
          refine zR 3 ?_
          obtain ⟨r303, h304, hm⟩ := bind_some hm
          refine zC11 hs220 (dNeed_walk (vb := b45) (img := q34) (l := r210.2) (gw := 1) (gi := (2 + 1 % 20)) (gb := (2 + b_ % 60)) (n_ := 2) (at_ := r71) (ma_ := ((((ss.getD p35.toNat dSt14).c4).extract 0 ((mn (((ss.getD p35.toNat dSt14).c4).size : Int) 128).toNat)).size : Int)) (hm := h304) B _) fun w305 hs307 => ?_
          refine zR 2 ?_
          rcases Bool.eq_false_or_eq_true (!decide (r303 = 0)) with h308 | h308
          rotate_left
          ·
           have h308p : r303 = 0 := of_decide_eq_true (bnot_false h308)
           replace hm := ite_yes hm h308p
           refine zS 132 h308 ?_
           refine zS 131 h308 ?_
           refine zE 4 (hK221 _ _ ?_)
           refine W.cond_false false (by kernel_rfl) rfl ?_
           refine W.skip ?_
           have hs309 := St.f6 hs307
           have hs310 := St.f3 hs309
           have hs311 := St.f5 hs310
           have hs312 := St.f5 hs311
           have hs313 := St.f5 hs312
           have hs314 := St.f5 hs313
           have hs315 := St.f6 hs314
           exact ⟨r210.2, slots_intro _ (by kernel_rfl), hs315, hm⟩
          ·
           have h308p : ¬ (r303 = 0) := of_decide_eq_false (bnot_true h308)
           replace hm := ite_no hm h308p
           refine zS 132 h308 ?_
           refine zS 131 h308 ?_
           refine zE 4 (hK221 _ _ ?_)
           refine W.cond (decide (r210.1 = 0)) (by kernel_rfl) (fun h316 => ?_) (fun h316 => ?_)
           ·
            obtain ⟨h316p, hm⟩ := iY hm h316
            refine W.sr fun K317 hK317 => ?_
            refine zE 1 (hK317 _ _ ?_)
            refine W.ret (ret_seq (ret_block (ret_seq (ret_seq (ret_block (ret_seq ?_))))))
            have hs318 := St.tk0 hs307
            refine ret_of (.bool false) (by kernel_rfl) ⟨_, ⟨congrArg Value.bool (some_inj hm), rfl⟩, hs318⟩
           ·
            obtain ⟨h316p, hm⟩ := iN hm h316
            refine W.skip ?_
            have hs319 := St.f6 hs307
            have hs320 := St.f3 hs319
            have hs321 := St.f5 hs320
            have hs322 := St.f5 hs321
            have hs323 := St.f5 hs322
            have hs324 := St.f5 hs323
            have hs325 := St.f6 hs324
            exact ⟨r210.2, slots_intro _ (by kernel_rfl), hs325, hm⟩
         ·
          have h302p : ¬ (r216.2 = r76.2) := of_decide_eq_false (bnot_true h302)
          replace hm := ite_no hm h302p
          refine zS 124 h302 ?_
          refine zS 121 h302 ?_
          refine zS 122 h302 ?_
          refine zS 123 h302 ?_
          refine zE 12 (hK221 _ _ ?_)
          refine W.cond_true true (by kernel_rfl) rfl ?_
          refine W.sr fun K326 hK326 => ?_
          refine zE 1 (hK326 _ _ ?_)
          refine W.ret (ret_seq (ret_block (ret_seq (ret_seq (ret_block (ret_seq ?_))))))
          have hs327 := St.tk0 hs220
          refine ret_of (.bool false) (by kernel_rfl) ⟨_, ⟨congrArg Value.bool (some_inj hm), rfl⟩, hs327⟩
      ·
       have h222p : ¬ ((r210.1 = 7) ↔ (r203 > r76.2)) := beq_no decide_eq_true_iff decide_eq_true_iff (bnot_true h222)
       replace hm := ite_no hm h222p
       refine zS 104 h222 ?_
       refine zS 103 h222 ?_
       refine zE 32 (hK221 _ _ ?_)
       refine W.cond_true true (by kernel_rfl) rfl ?_
       refine W.sr fun K328 hK328 => ?_
       refine zE 1 (hK328 _ _ ?_)
       refine W.ret (ret_seq (ret_block (ret_seq (ret_seq (ret_block (ret_seq ?_))))))
       have hs329 := St.tk0 hs220
       refine ret_of (.bool false) (by kernel_rfl) ⟨_, ⟨congrArg Value.bool (some_inj hm), rfl⟩, hs329⟩
     ·
      obtain ⟨h201p, hm⟩ := iN hm h201
      refine W.sr fun K330 hK330 => ?_
      refine zR 1 ?_
      refine ops_R (runs_loadAgg (ad := ⟨b26, 0, none⟩) (cs := [(.int .i64 1), (.int .i64 (2 + 1 % 20)), (.int .i64 (2 + b_ % 60))]) (by kernel_rfl) (cells_sub (hs80.heapAt 5 rfl) rfl)) ?_
      refine zR 1 ?_
      obtain ⟨r331, h332, hm⟩ := bind_some hm
      have hs333 := St.f4 hs80
      refine zC11 hs333 (dResize_walk (vb := b45) (img := q34) (l := []) (gw := 1) (gi := (2 + 1 % 20)) (gb := (2 + b_ % 60)) (n_ := 2) (sz_ := r71) (hm := h332) B _) fun w334 hs336 => ?_
      refine zE 1 (hK330 _ _ ?_)
      refine W.cond (!decide (r331.1 = 0)) (by kernel_rfl) (fun h337 => ?_) (fun h337 => ?_)
      rotate_left
      ·
       have h337p : r331.1 = 0 := of_decide_eq_true (bnot_false h337)
       replace hm := ite_yes hm h337p
       refine W.skip ?_
       have hs338 := St.f6 hs336
       have hs339 := St.f3 hs338
       have hs340 := St.f5 hs339
       have hs341 := St.f5 hs340
       have hs342 := St.f5 hs341
       have hs343 := St.f5 hs342
       have hs344 := St.f6 hs343
       exact ⟨r331.2, slots_intro _ (by kernel_rfl), hs344, hm⟩
      ·
       have h337p : ¬ (r331.1 = 0) := of_decide_eq_false (bnot_true h337)
       replace hm := ite_no hm h337p
       refine W.sr fun K345 hK345 => ?_
       refine zE 1 (hK345 _ _ ?_)
       refine W.ret (ret_seq (ret_block (ret_seq (ret_seq (ret_block (ret_seq ?_))))))
       have hs346 := St.tk0 hs336
       refine ret_of (.bool false) (by kernel_rfl) ⟨_, ⟨congrArg Value.bool (some_inj hm), rfl⟩, hs346⟩
   ·
    obtain ⟨h52p, hm⟩ := iN hm h52
    refine zC00 hs49 (anew_err (gw := 1) (gi := (2 + 1 % 20)) (gb := (2 + b_ % 60)) (hv := (hs49.entAt 0 rfl viewA_at)) (hz := h51) (hN := h52p) B _) fun w347 hs349 => ?_
    refine zR 5 ?_
    obtain ⟨r350, h351, hm⟩ := bind_some hm
    replace h351 := some_inj h351
    refine ops_set 10 (v := .int .i64 r350) (Eq.trans (by kernel_rfl) (congrArg (Value.int .i64) h351)) ?_
    refine zD (hK50 _ _ ?_)
    refine W.seq fun K352 hK352 => ?_
    refine W.sr fun K353 hK353 => ?_
    refine zE 10 (hK353 _ _ ?_)
    refine W.cond_true true (by kernel_rfl) rfl ?_
    refine W.sr fun K354 hK354 => ?_
    refine zE 1 (hK354 _ _ ?_)
    refine W.ret (ret_seq (ret_block (ret_seq (ret_seq (ret_block (ret_seq ?_))))))
    have hs355 := St.tk0 hs349
    refine ret_of (.bool false) (by kernel_rfl) ⟨_, ⟨congrArg Value.bool (some_inj hm), rfl⟩, hs355⟩
  ·
   obtain ⟨h42p, hm⟩ := iN hm h42
   refine W.exit (exit_seq (exit_seq (exit_here ?_)))
   refine hK30 _ _ ?_
   refine W.sr fun K356 hK356 => ?_
   obtain ⟨r357, h358, hm⟩ := bind_some hm
   refine zC00 hs39 (works14_walk (hG := hG) (hT := (hs39.oldCells hT)) (hm := h358) B _) fun w359 hs361 => ?_
   refine zE 1 (hK356 _ _ ?_)
   refine W.ret ?_
   have hs362 := St.tk0 hs361
   refine ret_of (.bool r357) (by kernel_rfl) ⟨_, ⟨congrArg Value.bool (some_inj hm), rfl⟩, hs362⟩

end Go.Proofs.YtmmclabkkigiaaaDoor

namespace Go.Proofs.YtmmclabkkigiaaaDoor
open Go Go.RowKit
set_option linter.unusedVariables false
set_option linter.unusedSimpArgs false

theorem datacounts_law {b_ : Int} {ss : List TSt14} (hb : 0 ≤ b_ ∧ b_ ≤ 255) (hs : ∀ x ∈ ss, good_St14 x) : datacounts_M b_ ss = some true := by
  refine Ok.true ?_
  obtain ⟨gb, hgb⟩ : ∃ gb, gb = 2 + b_ % 60 := ⟨_, rfl⟩
  have hg : 2 ≤ gb ∧ gb ≤ 61 := by omega
  have h0 := Fi.start (gb := gb) (by omega)
  unfold datacounts_M
  refine Ok.bind (great14_len ss) fun r hr => Ok.ite (fun _ => works14_stop) fun hgr => Ok.got (file14_eq hb hgb) ?_
  have hlen := hr (by simpa using hgr)
  refine Ok.iter (fun s : List Int × Int => (∃ sz f c, Fi 3 gb s.1 [] sz f c) ∧ 0 ≤ s.2) (fun s => ((ss.length : Int) - s.2).toNat) ?_ _ _ ⟨⟨_, _, _, h0⟩, by simp⟩ (fuel_lt (by simp only; omega))
  rintro k ⟨q, p⟩ ⟨⟨sz, f, c, h⟩, h1⟩ ih
  simp only at h h1 ih
  have hql := h.mp.dk.len
  have hM := h.mp.dk.may
  have hw := h.mp.dk.words
  have hsz := h.le
  have hs0 := h.pos
  -- behind the call
  have J2 : ∀ (sz2 : Int) (m : List (Int × Int)) (f2 : Nat → Int) (c2 : Int), p < (ss.length : Int) → Fi 3 gb q m sz2 f2 c2 → Ok (· = true) (datacounts_J2 b_ k q p m) := by
    intro sz2 m f2 c2 hp hf
    have hle := hf.le
    have hpo := hf.pos
    have hfl := hf.flat
    have hll := hfl.mp.dk.len
    have hw2 := hfl.mp.dk.words
    unfold datacounts_J2
    rw [show (2 : Int) + 1 % 20 = 3 by omega, ← hgb, hf.mp.iget]
    refine Ok.yes rfl (Ok.name fun r hr => ?_)
    rw [hr]
    simp only
    have e63 : ((sz2 + 63) % 18446744073709551616).tdiv 64 = (sz2 + 63) / 64 := by
      rw [Int.tdiv_eq_ediv_of_nonneg (by omega)]
      omega
    rw [e63]
    refine Ok.yes (by trivial) (Ok.need (by omega) (Ok.need (by omega) (Ok.name fun z hz => ?_)))
    refine Ok.iter (fun p2 => z ≤ p2) (fun p2 => (12 - p2).toNat) ?_ _ _ (by omega) (fuel_lt (by omega))
    intro k2 p2 t1 ih2
    unfold datacounts_B1
    rw [show (2 : Int) + 1 % 20 = 3 by omega, ← hgb]
    refine Ok.ite (fun ht => ?_) (fun ht => ?_)
    · obtain ⟨kn, rfl⟩ := Int.eq_ofNat_of_zero_le (show 0 ≤ p2 by omega)
      have hz0 : f2 kn = 0 := by
        refine Classical.byContradiction fun q0 => ?_
        have := hf.tail kn (by omega) q0
        omega
      refine Ok.got (hf.mp.at (by omega)) (Ok.yes hz0 (Ok.yes rfl (Ok.need (by omega) (ih2 _ (by omega) (by omega)))))
    · unfold datacounts_J3
      rw [show (2 : Int) + 1 % 20 = 3 by omega, ← hgb]
      refine Ok.name fun r2 hr2 => Ok.yes (by omega) (Ok.need (by omega) (ih _ ⟨⟨sz2, f2, c2, hfl⟩, by simp only; omega⟩ (by simp only; omega)))
  show Ok (· = true) (datacounts_B0 b_ ss k q p)
  unfold datacounts_B0
  refine Ok.ite (fun hp => ?_) (fun _ => works14_stop)
  have hx := hs _ (getD_in (d := dSt14) (show p.toNat < ss.length by omega))
  unfold good_St14 at hx
  have hat : (ss.getD p.toNat dSt14).c2.tmod 769 = (ss.getD p.toNat dSt14).c2 % 769 := Int.tmod_eq_emod_of_nonneg (by omega)
  rw [hat, show (2 : Int) + 1 % 20 = 3 by omega, ← hgb, place6 hM, place7 hM]
  simp only [Int.reduceMul, Int.reduceAdd]
  have hn : 0 ≤ mn (((ss.getD p.toNat dSt14).c4.size : Int)) 128 ∧ mn (((ss.getD p.toNat dSt14).c4.size : Int)) 128 ≤ 128 ∧ mn (((ss.getD p.toNat dSt14).c4.size : Int)) 128 ≤ ((ss.getD p.toNat dSt14).c4.size : Int) := by unfold mn; split <;> omega
  have hes := ext_size (ss.getD p.toNat dSt14).c4 (mn ((ss.getD p.toNat dSt14).c4.size : Int) 128).toNat
  refine Ok.need (by omega) (Ok.need (by omega) (Ok.yes ⟨hM, by omega⟩ (Ok.need (by omega) (Ok.name fun at_ hat_ => ?_))))
  have hatr : 0 ≤ at_ ∧ at_ < 769 := by omega
  clear hat hat_
  refine Ok.need (by omega) (Ok.got h.mp.free (Ok.ite (fun _ => ?_) (fun _ => ?_)))
  rotate_left
  · rcases h.resize (s := at_) (by unfold U64; omega) with ⟨w1, w2⟩ | ⟨w1, m, f2, c2, w2, w3, w4⟩
    · omega
    · exact Ok.got w2 (Ok.yes rfl (J2 at_ m f2 c2 hp w3))
  have hcle := cnt_le (mbits q [] 480) gb.toNat
  have hst := strNums_len ((ss.getD p.toNat dSt14).c4.extract 0 (mn ((ss.getD p.toNat dSt14).c4.size : Int) 128).toNat)
  generalize (ss.getD p.toNat dSt14).c4.extract 0 (mn ((ss.getD p.toNat dSt14).c4.size : Int) 128).toNat = tx at *
  have hN := dNeed_ok h.mp (show (1 : Int) ≠ 2 by decide) (at_ := at_) (ma := (tx.size : Int)) (by omega) (by omega)
  refine Ok.got hN ?_
  rcases h.write (at_ := at_) (by unfold U64; omega) (tx := tx) (by omega) with ⟨w1, w2⟩ | ⟨w1, w3, w2⟩ | ⟨w1, w3, w4, w2⟩ | ⟨w1, w3, w4, m, f2, c2, w2, w5⟩
  · rw [if_neg (by omega)] at hN ⊢
    refine Ok.got w2 (Ok.got h.mp.free (Ok.yes ⟨fun q => absurd q (by decide), fun q => absurd q (by simp only; omega)⟩ (Ok.no (by decide) (Ok.no (by decide) (Ok.yes rfl (Ok.got hN (Ok.yes rfl (J2 sz [] f c hp h))))))))
  · rw [if_neg (by omega)] at hN ⊢
    refine Ok.got w2 (Ok.got h.mp.free (Ok.yes ⟨fun q => absurd q (by decide), fun q => absurd q (by simp only; omega)⟩ (Ok.yes rfl (Ok.need (by simp only; omega) (Ok.yes (by simp only; omega) (Ok.yes rfl (Ok.got hN (Ok.yes rfl (J2 sz [] f c hp h)))))))))
  · rw [if_pos (by omega)] at hN ⊢
    refine Ok.got w2 (Ok.got h.mp.free (Ok.yes ⟨fun _ => by simp only; omega, fun _ => rfl⟩ (Ok.no (by decide) (Ok.no (by decide) (Ok.yes rfl (Ok.got hN (Ok.no (by omega) (Ok.no (by decide) (J2 sz [] f c hp h)))))))))
  · have hfi := w5.fi
    have hcount := w5.count
    have hfull := w5.full
    rw [hst] at hfi hcount hfull
    have hcle2 := cnt_le (mbits q m 480) gb.toNat
    have hN2 := dNeed_ok hfi.mp (show (1 : Int) ≠ 2 by decide) (at_ := at_) (ma := (tx.size : Int)) (by omega) (by omega)
    have hnt : 0 ≤ needT f c (at_.toNat / 64) (endP (at_ + (tx.size : Int)).toNat - at_.toNat / 64) := by unfold needT; omega
    have hz : needT f2 c2 (at_.toNat / 64) (endP (at_ + (tx.size : Int)).toNat - at_.toNat / 64) = 0 := needT_full fun j j1 j2 => hfull j j1 (by unfold endP at *; omega)
    rw [if_pos (by omega), hz] at hN2
    rw [if_pos (by omega)] at hN ⊢
    refine Ok.got w2 (Ok.got hfi.mp.free ?_)
    refine Ok.yes ⟨fun q => absurd q (show ¬ (0 : Int) = 7 by decide), fun q => absurd q (by simp only; omega)⟩ ?_
    refine Ok.yes rfl (Ok.need (by simp only; omega) (Ok.yes (by simp only; omega) (Ok.yes rfl (Ok.got hN2 (Ok.yes rfl (J2 _ m f2 c2 hp hfi))))))
end Go.Proofs.YtmmclabkkigiaaaDoor
