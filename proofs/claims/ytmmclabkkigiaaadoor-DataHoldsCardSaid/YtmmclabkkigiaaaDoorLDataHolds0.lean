/- Texts, one behind the other: ALdHo, PLdHo. -/
import Derived.Test.YtmmclabkkigiaaaDoorQDN7
set_option linter.unusedVariables false
set_option linter.unusedSimpArgs false
set_option linter.unusedVariables false
set_option maxRecDepth 20000
set_option maxHeartbeats 4000000
namespace Go.Proofs.YtmmclabkkigiaaaDoor
open Go Go.RowKit
set_option linter.unusedSimpArgs false
set_option linter.unusedVariables false

def dataholds_J2 (b_ : Int) (k46 : ((List Int) × (List Int) × Int × Int) → Option (Bool)) (q42 : List Int) (p45 : Int) (q77 : List Int) (p78 : Int) (l79 : List (Int × Int)) : Option (Bool) :=
 (dRead_M q42 l79 1 (2 + 1 % 20) (2 + b_ % 60) 2 0 9223372036854775808).bind fun r83 =>
(some (igetM q42 l79 1 (2 + 1 % 20) (2 + b_ % 60) 2)).bind fun r90 =>
if r83.2 = 0 then (if r90.2 = 0 then (need (0 ≤ p78 ∧ p78 ≤ 768) <|
need (p78.toNat = (q77.take p78.toNat).length) <|
if (r83.1.toList == (strOfNums (q77.take p78.toNat)).toList) = true then (need (0 ≤ p78 ∧ p78 ≤ 18446744073709551615) <|
if r90.1.s = p78 then ((some (wordsOf 1 (2 + 1 % 20) (2 + b_ % 60))).bind fun r119 =>
if (((vflat q42 l79).length) : Int) = r119 then (need (-9223372036854775808 ≤ (p45 + 1) ∧ (p45 + 1) ≤ 9223372036854775807) <|
k46 ((vflat q42 l79), q77, p78, (p45 + 1))) else (some false)) else (some false)) else (some false)) else (some false)) else (some false)

def dataholds_J5 (b_ : Int) (k46 : ((List Int) × (List Int) × Int × Int) → Option (Bool)) (q42 : List Int) (p45 : Int) (r148 : Int × List (Int × Int)) (q156 : List Int) (p159 : Int) : Option (Bool) :=
 if r148.1 = 0 then (dataholds_J2 b_ k46 q42 p45 q156 p159 r148.2) else (if (r148.2.length : Int) > 0 then (some false) else (dataholds_J2 b_ k46 q42 p45 q156 p159 r148.2))

def dataholds_J6 (b_ : Int) (ss : List TSt14) (k46 : ((List Int) × (List Int) × Int × Int) → Option (Bool)) (q42 : List Int) (p44 : Int) (p45 : Int) (r75 : Int) (r148 : Int × List (Int × Int)) (q156 : List Int) (p178 : Bool) : Option (Bool) :=
 if p178 = true then (need (-9223372036854775808 ≤ (r75 + ((((ss.getD p45.toNat dSt14).c4).extract 0 ((mn (((ss.getD p45.toNat dSt14).c4).size : Int) 128).toNat)).size : Int)) ∧ (r75 + ((((ss.getD p45.toNat dSt14).c4).extract 0 ((mn (((ss.getD p45.toNat dSt14).c4).size : Int) 128).toNat)).size : Int)) ≤ 9223372036854775807) <|
(some (mx p44 (r75 + ((((ss.getD p45.toNat dSt14).c4).extract 0 ((mn (((ss.getD p45.toNat dSt14).c4).size : Int) 128).toNat)).size : Int)))).bind fun r183 =>
dataholds_J5 b_ k46 q42 p45 r148 q156 r183) else (dataholds_J5 b_ k46 q42 p45 r148 q156 p44)

def dataholds_J4 (b_ : Int) (ss : List TSt14) (k46 : ((List Int) × (List Int) × Int × Int) → Option (Bool)) (q42 : List Int) (p44 : Int) (p45 : Int) (r75 : Int) (r148 : Int × List (Int × Int)) (q156 : List Int) : Option (Bool) :=
 if r148.1 = 0 then (dataholds_J6 b_ ss k46 q42 p44 p45 r75 r148 q156 (decide (((((ss.getD p45.toNat dSt14).c4).extract 0 ((mn (((ss.getD p45.toNat dSt14).c4).size : Int) 128).toNat)).size : Int) > 0))) else (dataholds_J6 b_ ss k46 q42 p44 p45 r75 r148 q156 false)

def dataholds_B1 (b_ : Int) (ss : List TSt14) (k46 : ((List Int) × (List Int) × Int × Int) → Option (Bool)) (q42 : List Int) (p44 : Int) (p45 : Int) (r75 : Int) (r148 : Int × List (Int × Int)) (k189 : ((List Int) × Int) → Option (Bool)) (q187 : List Int) (p188 : Int) : Option (Bool) :=
 if p188 < ((((ss.getD p45.toNat dSt14).c4).extract 0 ((mn (((ss.getD p45.toNat dSt14).c4).size : Int) 128).toNat)).size : Int) then (if r148.1 = 0 then (need (-9223372036854775808 ≤ (r75 + p188) ∧ (r75 + p188) ≤ 9223372036854775807) <|
need (0 ≤ p188 ∧ p188 < ((((ss.getD p45.toNat dSt14).c4).extract 0 ((mn (((ss.getD p45.toNat dSt14).c4).size : Int) 128).toNat)).size : Int)) <|
need (0 ≤ (r75 + p188) ∧ (r75 + p188) < 768) <|
need (q187.length = 768) <|
need (-9223372036854775808 ≤ (p188 + 1) ∧ (p188 + 1) ≤ 9223372036854775807) <|
k189 ((q187.set ((r75 + p188).toNat) (sbyte (((ss.getD p45.toNat dSt14).c4).extract 0 ((mn (((ss.getD p45.toNat dSt14).c4).size : Int) 128).toNat)) p188)), (p188 + 1))) else (dataholds_J4 b_ ss k46 q42 p44 p45 r75 r148 q187)) else (dataholds_J4 b_ ss k46 q42 p44 p45 r75 r148 q187)

def dataholds_J3 (b_ : Int) (ss : List TSt14) (k46 : ((List Int) × (List Int) × Int × Int) → Option (Bool)) (q42 : List Int) (q43 : List Int) (p44 : Int) (p45 : Int) (r75 : Int) (r148 : Int × List (Int × Int)) : Option (Bool) :=
 iter (fun k_ s_ => dataholds_B1 b_ ss k46 q42 p44 p45 r75 r148 k_ s_.1 s_.2) FUEL (q43, 0)

def dataholds_B2 (b_ : Int) (k46 : ((List Int) × (List Int) × Int × Int) → Option (Bool)) (q42 : List Int) (p44 : Int) (p45 : Int) (r75 : Int) (r240 : Int × List (Int × Int)) (k254 : ((List Int) × Int) → Option (Bool)) (q252 : List Int) (p253 : Int) : Option (Bool) :=
 if p253 < p44 then (need (0 ≤ p253 ∧ p253 < 768) <|
need (q252.length = 768) <|
need (-9223372036854775808 ≤ (p253 + 1) ∧ (p253 + 1) ≤ 9223372036854775807) <|
k254 ((q252.set p253.toNat 0), (p253 + 1))) else (dataholds_J2 b_ k46 q42 p45 q252 r75 r240.2)

def dataholds_J8 (b_ : Int) (k46 : ((List Int) × (List Int) × Int × Int) → Option (Bool)) (q42 : List Int) (q43 : List Int) (p44 : Int) (p45 : Int) (r75 : Int) (r240 : Int × List (Int × Int)) : Option (Bool) :=
 if r240.1 = 0 then (iter (fun k_ s_ => dataholds_B2 b_ k46 q42 p44 p45 r75 r240 k_ s_.1 s_.2) FUEL (q43, r75)) else (dataholds_J2 b_ k46 q42 p45 q43 p44 r240.2)

def dataholds_B0 (b_ : Int) (ss : List TSt14) (k46 : ((List Int) × (List Int) × Int × Int) → Option (Bool)) (q42 : List Int) (q43 : List Int) (p44 : Int) (p45 : Int) : Option (Bool) :=
 if p45 < (ss.length : Int) then (need (q42.length ≤ 17592186044415) <|
need (0 ≤ p45 ∧ p45 < (ss.length : Int)) <|
need (-9223372036854775808 ≤ (((ss.getD p45.toNat dSt14).c2).tmod 808) ∧ (((ss.getD p45.toNat dSt14).c2).tmod 808) ≤ 9223372036854775807) <|
(some (((ss.getD p45.toNat dSt14).c2).tmod 808)).bind fun r75 =>
if ((ss.getD p45.toNat dSt14).c0).tmod 2 = 0 then (need ((0 : Int) ≤ 0 ∧ (0 : Int) ≤ (mn (((ss.getD p45.toNat dSt14).c4).size : Int) 128) ∧ (mn (((ss.getD p45.toNat dSt14).c4).size : Int) 128) ≤ (((ss.getD p45.toNat dSt14).c4).size : Int)) <|
need (0 ≤ r75 ∧ r75 ≤ 18446744073709551615) <|
(dWrite_M q42 ([]) 1 (2 + 1 % 20) (2 + b_ % 60) 2 r75 (((ss.getD p45.toNat dSt14).c4).extract 0 ((mn (((ss.getD p45.toNat dSt14).c4).size : Int) 128).toNat))).bind fun r148 =>
need (-9223372036854775808 ≤ (r75 + ((((ss.getD p45.toNat dSt14).c4).extract 0 ((mn (((ss.getD p45.toNat dSt14).c4).size : Int) 128).toNat)).size : Int)) ∧ (r75 + ((((ss.getD p45.toNat dSt14).c4).extract 0 ((mn (((ss.getD p45.toNat dSt14).c4).size : Int) 128).toNat)).size : Int)) ≤ 9223372036854775807) <|
if ((r148.1 = 8) ↔ ((r75 + ((((ss.getD p45.toNat dSt14).c4).extract 0 ((mn (((ss.getD p45.toNat dSt14).c4).size : Int) 128).toNat)).size : Int)) > 768)) then (if r148.1 = 0 then (dataholds_J3 b_ ss k46 q42 q43 p44 p45 r75 r148) else (if r148.1 = 8 then (dataholds_J3 b_ ss k46 q42 q43 p44 p45 r75 r148) else (if r148.1 = 7 then (dataholds_J3 b_ ss k46 q42 q43 p44 p45 r75 r148) else (some false)))) else (some false)) else (need (0 ≤ r75 ∧ r75 ≤ 18446744073709551615) <|
(dResize_M q42 ([]) 1 (2 + 1 % 20) (2 + b_ % 60) 2 r75).bind fun r240 =>
if ((r240.1 = 0) ↔ (r75 ≤ 768)) then (if r240.1 = 0 then (dataholds_J8 b_ k46 q42 q43 p44 p45 r75 r240) else (if r240.1 = 8 then (dataholds_J8 b_ k46 q42 q43 p44 p45 r75 r240) else (some false))) else (some false))) else ((works14_M).bind fun r294 =>
some r294)

def dataholds_M (b_ : Int) (ss : List TSt14) : Option (Bool) :=
 (great14_M ss).bind fun r4 =>
if r4 = true then ((works14_M).bind fun r11 =>
some r11) else ((file14_M b_).bind fun r19 =>
iter (fun k_ s_ => dataholds_B0 b_ ss k_ s_.1 s_.2.1 s_.2.2.1 s_.2.2.2) FUEL (r19, (List.replicate 768 0), 0, 0))

theorem dataholds_walk {b_ : Int} {ss : List TSt14} {sa : Option Addr} {sc : Nat}  (B : Nat) (w : World) (hB : w.heap.size = B) (hT : CellsAt (some ⟨0, 0, none⟩) tab8 w) (hst : CellsAt sa (kSt14.cells ss) w) (hm : dataholds_M b_ ss = some true) : Spec Tryd.prog 8 #[(.int .u8 b_), (.slice sa ss.length sc)] B w [] (fun v H' => v = .bool true ∧ H' = []) := by
 refine spec_Q Tryd.func8 rfl fun hs => ?_
 unfold dataholds_M at hm
 have hG : 0 < B := by rw [← hB]; exact lt_of_cells hT (v := .int .u8 0) (by kernel_rfl)
 refine W.sr fun K1 hK1 => ?_
 refine zE 1 (hK1 _ _ ?_)
 refine W.seq fun K2 hK2 => ?_
 refine W.sr fun K3 hK3 => ?_
 refine zR 1 ?_
 obtain ⟨r4, h5, hm⟩ := bind_some hm
 refine zC00 hs (great14_walk (sc := sc) (hst := (hs.oldCells hst)) (hm := h5) B _) fun w6 hs8 => ?_
 refine zD (hK3 _ _ ?_)
 refine W.cond r4 (by kernel_rfl) (fun h9 => ?_) (fun h9 => ?_)
 ·
  have h9p : r4 = true := h9
  replace hm := ite_yes hm h9p
  refine W.sr fun K10 hK10 => ?_
  obtain ⟨r11, h12, hm⟩ := bind_some hm
  refine zC00 hs8 (works14_walk (hG := hG) (hT := (hs8.oldCells hT)) (hm := h12) B _) fun w13 hs15 => ?_
  refine zE 1 (hK10 _ _ ?_)
  refine W.ret (ret_seq ?_)
  refine ret_of (.bool r11) (by kernel_rfl) ⟨_, ⟨congrArg Value.bool (some_inj hm), rfl⟩, hs15⟩
 ·
  have h9p : ¬ (r4 = true) := ne_true_of_eq_false h9
  replace hm := ite_no hm h9p
  refine W.skip ?_
  refine hK2 _ _ ?_
  refine W.sr fun K16 hK16 => ?_
  refine zR 1 ?_
  obtain ⟨r19, h20, hm⟩ := bind_some hm
  refine ops_call0 hs8 (by kernel_rfl) (file14_walk (b_ := b_) (hm := h20) B _) ?_
  rintro _ _ w21 ⟨a17, c18, rfl, rfl⟩ hs22
  have hs23 := St.ap1 hs22
  refine zR 3 ?_
  refine zN [(.int .i64 0), (.int .i64 0), (.int .i64 0)] 23 hs23 fun b26 w24 hs25 => ?_
  refine ops_store (off := 0) (cs := [(.int .i64 0), (.int .i64 0), (.int .i64 0)]) (vs := [(.int .i64 1), (.int .i64 (2 + 1 % 20)), (.int .i64 (2 + b_ % 60))]) hs25 (by kernel_rfl) (by simp) rfl (fun w27 hs28 => ?_)
  have hs29 : St B w [] w27 [blk b26 (.cells [(.int .i64 1), (.int .i64 (2 + 1 % 20)), (.int .i64 (2 + b_ % 60))].toArray 23 (0, 0)), kU64.row a17 c18 r19] := hs28
  refine zE 1 (hK16 _ _ ?_)
  refine W.sr fun K30 hK30 => ?_
  refine ops_new (fun b => .pointer (some ⟨b, 0, none⟩)) (.cells (kU8.cells (List.replicate 768 0)).toArray 73 (0, 0)) hs29 (by kernel_rfl) (fun b36 w34 hs35 => ?_)
  refine zD (hK30 _ _ ?_)
  refine W.sr fun K37 hK37 => ?_
  refine zE 1 (hK37 _ _ ?_)
  refine W.seq fun K38 hK38 => ?_
  refine W.sr fun K39 hK39 => ?_
  refine zE 1 (hK39 _ _ ?_)
  refine W.block ?_
  have hs50 := St.f2 hs35
  have hs51 := St.f2 hs50
  refine W.loop_iter (G := (List Int) × (List Int) × Int × Int × (Option Addr) × Nat) (σ := (List Int) × (List Int) × Int × Int) (fun | (q42, q43, p44, p45, m40, m41) => (q42, q43, p44, p45)) (fun | (q42, q43, p44, p45, m40, m41), s_, w_ => (∃ us, s_ = slots 192 [(1, (.slice sa ss.length sc)), (5, (.pointer (some ⟨b26, 0, none⟩))), (6, (.slice m40 q42.length m41)), (7, (.pointer (some ⟨b36, 0, none⟩))), (8, (.int .i64 p44)), (9, (.int .i64 p45))] us) ∧ St B w [] w_ [blk b26 (.cells [(.int .i64 1), (.int .i64 (2 + 1 % 20)), (.int .i64 (2 + b_ % 60))].toArray 23 (0, 0)), kU64.row m40 m41 q42, blk b36 (.cells (kU8.cells q43).toArray 73 (0, 0))]) (r19, (List.replicate 768 0), 0, 0, a17, c18) ⟨slots_intro _ (by kernel_rfl), hs51⟩ hm ?_
  rintro k46 ih47 ⟨q42, q43, p44, p45, m40, m41⟩ _ w48 ⟨⟨us, rfl⟩, hs49⟩ hm
  replace hm : dataholds_B0 b_ ss k46 q42 q43 p44 p45 = some true := hm
  unfold dataholds_B0 at hm
  refine W.seq fun K52 hK52 => ?_
  refine W.sr fun K53 hK53 => ?_
  refine zE 4 (hK53 _ _ ?_)
  refine W.cond (decide (p45 < (ss.length : Int))) (by kernel_rfl) (fun h54 => ?_) (fun h54 => ?_)
  ·
   obtain ⟨h54p, hm⟩ := iY hm h54
   refine W.skip ?_
   refine hK52 _ _ ?_
   refine W.seq fun K55 hK55 => ?_
   refine W.block ?_
   refine W.sr fun K56 hK56 => ?_
   refine zR 1 ?_
   obtain ⟨h58, hm⟩ := need_some hm
   refine ops_call0 hs49 (by kernel_rfl) (new_spec (hc := (St.kcells kU64 hs49 1 rfl)) (hn := (St.capnil kU64 hs49 1 rfl)) (hsz := h58) B _) ?_
   rintro _ _ w59 ⟨b57, rfl, rfl⟩ hs60
   have hs61 := St.ap1 hs60
   refine zE 1 (hK56 _ _ ?_)
   refine W.seq fun K62 hK62 => ?_
   refine W.sr fun K63 hK63 => ?_
   refine zE 2 (hK63 _ _ ?_)
   refine W.cond_false false (by kernel_rfl) rfl ?_
   refine W.skip ?_
   refine hK62 _ _ ?_
   refine W.sr fun K64 hK64 => ?_
   refine zR 2 ?_
   obtain ⟨h66, hm⟩ := need_some hm
   have hk65 := lt_toNat h66
   refine ops_R (runs_index (a := sa) (n := ss.length) (z := p45) (size := 6) p45.toNat (nat_of h66.1) hk65 (kSt14.addr (hs61.oldCells hst) hk65) (by kernel_rfl)) ?_
   refine ops_R (runs_loadAgg (cs := [(.int .u8 ((ss.getD p45.toNat dSt14).c0)), (.int .i64 ((ss.getD p45.toNat dSt14).c1)), (.int .u64 ((ss.getD p45.toNat dSt14).c2)), (.int .u64 ((ss.getD p45.toNat dSt14).c3)), (.string ((ss.getD p45.toNat dSt14).c4)), (.bool ((ss.getD p45.toNat dSt14).c5))]) (by kernel_rfl) (kSt14.all (hs61.oldCells hst) hk65 dSt14 0 rfl)) ?_
   refine zN [(.int .u8 0), (.int .i64 0), (.int .u64 0), (.int .u64 0), (.string ByteArray.empty), (.bool false)] 75 hs61 fun b69 w67 hs68 => ?_
   refine ops_store (off := 0) (cs := [(.int .u8 0), (.int .i64 0), (.int .u64 0), (.int .u64 0), (.string ByteArray.empty), (.bool false)]) (vs := [(.int .u8 ((ss.getD p45.toNat dSt14).c0)), (.int .i64 ((ss.getD p45.toNat dSt14).c1)), (.int .u64 ((ss.getD p45.toNat dSt14).c2)), (.int .u64 ((ss.getD p45.toNat dSt14).c3)), (.string ((ss.getD p45.toNat dSt14).c4)), (.bool ((ss.getD p45.toNat dSt14).c5))]) hs68 (by kernel_rfl) (by simp) rfl (fun w70 hs71 => ?_)
   have hs72 : St B w [] w70 [blk b69 (.cells [(.int .u8 ((ss.getD p45.toNat dSt14).c0)), (.int .i64 ((ss.getD p45.toNat dSt14).c1)), (.int .u64 ((ss.getD p45.toNat dSt14).c2)), (.int .u64 ((ss.getD p45.toNat dSt14).c3)), (.string ((ss.getD p45.toNat dSt14).c4)), (.bool ((ss.getD p45.toNat dSt14).c5))].toArray 75 (0, 0)), viewA (ptr b57) q42 ([]), blk b26 (.cells [(.int .i64 1), (.int .i64 (2 + 1 % 20)), (.int .i64 (2 + b_ % 60))].toArray 23 (0, 0)), kU64.row m40 m41 q42, blk b36 (.cells (kU8.cells q43).toArray 73 (0, 0))] := hs71
   refine zD (hK64 _ _ ?_)
   refine W.sr fun K73 hK73 => ?_
   refine zR 1 ?_
   refine zL ⟨b69, 2, none⟩ (.int .u64 ((ss.getD p45.toNat dSt14).c2)) (hs72.cellAt 0 rfl rfl) ?_
   refine zR 1 ?_
   obtain ⟨h74, hm⟩ := need_some hm
   refine zI _ (wrap_i64 h74.1 h74.2) ?_
   refine zR 1 ?_
   obtain ⟨r75, h76, hm⟩ := bind_some hm
   replace h76 := some_inj h76
   refine ops_set 12 (v := .int .i64 r75) (Eq.trans (by kernel_rfl) (congrArg (Value.int .i64) h76)) ?_
   refine zD (hK73 _ _ ?_)
   refine W.seq_join (fun s_ w_ => ∃ (q77 : List Int) (p78 : Int) (l79 : List (Int × Int)), (∃ us, s_ = slots 192 [(1, (.slice sa ss.length sc)), (5, (.pointer (some ⟨b26, 0, none⟩))), (7, (.pointer (some ⟨b36, 0, none⟩))), (8, (.int .i64 p78)), (9, (.int .i64 p45)), (10, (.pointer (some ⟨b57, 0, none⟩)))] us) ∧ St B w [] w_ [blk b26 (.cells [(.int .i64 1), (.int .i64 (2 + 1 % 20)), (.int .i64 (2 + b_ % 60))].toArray 23 (0, 0)), blk b36 (.cells (kU8.cells q77).toArray 73 (0, 0)), viewA (ptr b57) q42 l79, blk b69 (.cells [(.int .u8 ((ss.getD p45.toNat dSt14).c0)), (.int .i64 ((ss.getD p45.toNat dSt14).c1)), (.int .u64 ((ss.getD p45.toNat dSt14).c2)), (.int .u64 ((ss.getD p45.toNat dSt14).c3)), (.string ((ss.getD p45.toNat dSt14).c4)), (.bool ((ss.getD p45.toNat dSt14).c5))].toArray 75 (0, 0)), kU64.row m40 m41 q42] ∧ dataholds_J2 b_ k46 q42 p45 q77 p78 l79 = some true) ?_ ?_
   ·
    rintro _ w80 ⟨q77, p78, l79, ⟨us, rfl⟩, hs81, hm⟩
    unfold dataholds_J2 at hm
    refine W.sr fun K82 hK82 => ?_
    refine zR 1 ?_
    refine ops_R (runs_loadAgg (ad := ⟨b26, 0, none⟩) (cs := [(.int .i64 1), (.int .i64 (2 + 1 % 20)), (.int .i64 (2 + b_ % 60))]) (by kernel_rfl) (cells_sub (hs81.heapAt 0 rfl) rfl)) ?_
    obtain ⟨r83, h84, hm⟩ := bind_some hm
    have hs85 := St.f2 hs81
    refine zC11 hs85 (dRead_walk (vb := b57) (img := q42) (l := l79) (gw := 1) (gi := (2 + 1 % 20)) (gb := (2 + b_ % 60)) (n_ := 2) (at_ := 0) (sz_ := 9223372036854775808) (hm := h84) B _) fun w86 hs88 => ?_
    refine zE 5 (hK82 _ _ ?_)
    refine W.sr fun K89 hK89 => ?_
    refine zR 1 ?_
    refine ops_R (runs_loadAgg (ad := ⟨b26, 0, none⟩) (cs := [(.int .i64 1), (.int .i64 (2 + 1 % 20)), (.int .i64 (2 + b_ % 60))]) (by kernel_rfl) (cells_sub (hs88.heapAt 1 rfl) rfl)) ?_
    obtain ⟨r90, h91, hm⟩ := bind_some hm
    replace h91 := some_inj h91
    refine ops_call0 hs88 (by kernel_rfl) (ig_spec (gw := 1) (gi := (2 + 1 % 20)) (gb := (2 + b_ % 60)) (n_ := 2) (hv := (hs88.entAt 0 rfl viewA_at)) B _) ?_
    rintro _ _ w92 ⟨hv94, hH95⟩ hs93
    rw [h91] at hv94
    try rw [h91] at hH95
    subst hv94 hH95
    have hs96 := St.ap0 hs93
    refine zR 3 ?_
    refine zN [(.int .u64 0), (.int .u64 0), (.int .u64 0), (.int .u64 0), (.int .u64 0), (.int .u64 0), (.int .u64 0), (.int .u64 0), (.int .u64 0), (.int .u64 0)] 78 hs96 fun b99 w97 hs98 => ?_
    refine ops_store (off := 0) (cs := [(.int .u64 0), (.int .u64 0), (.int .u64 0), (.int .u64 0), (.int .u64 0), (.int .u64 0), (.int .u64 0), (.int .u64 0), (.int .u64 0), (.int .u64 0)]) (vs := [(.int .u64 r90.1.k), (.int .u64 r90.1.l), (.int .u64 r90.1.o), (.int .u64 r90.1.s), (.int .u64 r90.1.a), (.int .u64 r90.1.b), (.int .u64 r90.1.c), (.int .u64 r90.1.d), (.int .u64 r90.1.e), (.int .u64 r90.1.m)]) hs98 (by kernel_rfl) (by simp) rfl (fun w100 hs101 => ?_)
    have hs102 : St B w [] w100 [blk b99 (.cells [(.int .u64 r90.1.k), (.int .u64 r90.1.l), (.int .u64 r90.1.o), (.int .u64 r90.1.s), (.int .u64 r90.1.a), (.int .u64 r90.1.b), (.int .u64 r90.1.c), (.int .u64 r90.1.d), (.int .u64 r90.1.e), (.int .u64 r90.1.m)].toArray 78 (0, 0)), viewA (ptr b57) q42 l79, blk b26 (.cells [(.int .i64 1), (.int .i64 (2 + 1 % 20)), (.int .i64 (2 + b_ % 60))].toArray 23 (0, 0)), blk b36 (.cells (kU8.cells q77).toArray 73 (0, 0)), blk b69 (.cells [(.int .u8 ((ss.getD p45.toNat dSt14).c0)), (.int .i64 ((ss.getD p45.toNat dSt14).c1)), (.int .u64 ((ss.getD p45.toNat dSt14).c2)), (.int .u64 ((ss.getD p45.toNat dSt14).c3)), (.string ((ss.getD p45.toNat dSt14).c4)), (.bool ((ss.getD p45.toNat dSt14).c5))].toArray 75 (0, 0)), kU64.row m40 m41 q42] := hs101
    refine zE 1 (hK89 _ _ ?_)
    refine W.seq fun K103 hK103 => ?_
    refine W.sr fun K104 hK104 => ?_
    refine zR 3 ?_
    rcases Bool.eq_false_or_eq_true (!decide (r83.2 = 0)) with h105 | h105
    rotate_left
    ·
     have h105p : r83.2 = 0 := of_decide_eq_true (bnot_false h105)
     replace hm := ite_yes hm h105p
     refine zS 166 h105 ?_
     refine zS 165 h105 ?_
     refine zR 4 ?_
     rcases Bool.eq_false_or_eq_true (!decide (r90.2 = 0)) with h106 | h106
     rotate_left
     ·
      have h106p : r90.2 = 0 := of_decide_eq_true (bnot_false h106)
      replace hm := ite_yes hm h106p
      refine zS 170 h106 ?_
      refine zS 168 h106 ?_
      refine zS 169 h106 ?_
      refine zR 2 ?_
      obtain ⟨h107, hm⟩ := need_some hm
      refine ops_R (v := .slice (some ⟨b36, 0, none⟩) p78.toNat 768) (runs_arrSlice (ad := ⟨b36, 0, none⟩) (n := 768) (size := 1) (hi := some p78) p78.toNat (.inl (congrArg some (nat_of h107.1))) (by omega) (by kernel_rfl)) ?_
      obtain ⟨h108, hm⟩ := need_some hm
      refine ops_R (runs_bytesStr (a := (some ⟨b36, 0, none⟩)) (n := p78.toNat) (c := 768) (xs := (q77.take p78.toNat)) (cells_take kU8 p78.toNat (cells_blk (hs102.heapAt 3 rfl))) h108 (by kernel_rfl)) ?_
      refine zR 3 ?_
      rcases Bool.eq_false_or_eq_true (!(r83.1.toList == (strOfNums (q77.take p78.toNat)).toList)) with h109 | h109
      rotate_left
      ·
       have h109p : (r83.1.toList == (strOfNums (q77.take p78.toNat)).toList) = true := (bnot_false h109)
       replace hm := ite_yes hm h109p
       refine zS 177 h109 ?_
       refine zS 175 h109 ?_
       refine zS 176 h109 ?_
       refine zR 1 ?_
       refine zL ⟨b99, 3, none⟩ (.int .u64 r90.1.s) (hs102.cellAt 0 rfl rfl) ?_
       refine zR 1 ?_
       obtain ⟨h110, hm⟩ := need_some hm
       refine zI _ (wrap_u64 h110.1 (Int.lt_of_le_of_lt h110.2 (by decide))) ?_
       refine zE 2 (hK104 _ _ ?_)
       refine W.cond (!decide (r90.1.s = p78)) (by kernel_rfl) (fun h111 => ?_) (fun h111 => ?_)
       rotate_left
       ·
        have h111p : r90.1.s = p78 := of_decide_eq_true (bnot_false h111)
        replace hm := ite_yes hm h111p
        refine W.skip ?_
        refine hK103 _ _ ?_
        refine W.sr fun K112 hK112 => ?_
        refine zR 1 ?_
        refine ops_call0 hs102 (by kernel_rfl) (flat_spec (hv := (hs102.entAt 1 rfl viewA_at)) B _) ?_
        rintro _ _ w115 ⟨a113, c114, rfl, rfl⟩ hs116
        have hs117 := St.ap1 hs116
        refine zE 1 (hK112 _ _ ?_)
        refine W.sr fun K118 hK118 => ?_
        refine zR 2 ?_
        refine ops_R (runs_loadAgg (ad := ⟨b26, 0, none⟩) (cs := [(.int .i64 1), (.int .i64 (2 + 1 % 20)), (.int .i64 (2 + b_ % 60))]) (by kernel_rfl) (cells_sub (hs117.heapAt 3 rfl) rfl)) ?_
        obtain ⟨r119, h120, hm⟩ := bind_some hm
        replace h120 := some_inj h120
        refine ops_call0 hs117 (by kernel_rfl) (lwords_spec (gw := 1) (gi := (2 + 1 % 20)) (gb := (2 + b_ % 60)) B _) ?_
        rintro _ _ w121 ⟨hv123, hH124⟩ hs122
        rw [h120] at hv123
        try rw [h120] at hH124
        subst hv123 hH124
        have hs125 := St.ap0 hs122
        refine zE 1 (hK118 _ _ ?_)
        refine W.cond (!decide ((((vflat q42 l79).length) : Int) = r119)) (by kernel_rfl) (fun h126 => ?_) (fun h126 => ?_)
        rotate_left
        ·
         have h126p : (((vflat q42 l79).length) : Int) = r119 := of_decide_eq_true (bnot_false h126)
         replace hm := ite_yes hm h126p
         refine W.skip ?_
         refine normal_block ?_
         refine hK55 _ _ ?_
         refine W.region ?_
         refine zR 1 ?_
         obtain ⟨h127, hm⟩ := need_some hm
         refine zI _ (wrap_i64 h127.1 h127.2) ?_
         refine zE 1 ?_
         have hs128 := St.f4 hs125
         have hs129 := St.f1 hs128
         have hs130 := St.f4 hs129
         have hs131 := St.tk3 hs130
         refine loopAt_next ?_
         exact ih47 ((vflat q42 l79), q77, p78, (p45 + 1), a113, c114) _ _ ⟨slots_intro _ (by kernel_rfl), hs131⟩ hm
        ·
         have h126p : ¬ ((((vflat q42 l79).length) : Int) = r119) := of_decide_eq_false (bnot_true h126)
         replace hm := ite_no hm h126p
         refine W.sr fun K132 hK132 => ?_
         refine zE 1 (hK132 _ _ ?_)
         refine W.ret (ret_block (ret_seq (ret_seq (ret_block (ret_seq ?_)))))
         have hs133 := St.tk0 hs125
         refine ret_of (.bool false) (by kernel_rfl) ⟨_, ⟨congrArg Value.bool (some_inj hm), rfl⟩, hs133⟩
       ·
        have h111p : ¬ (r90.1.s = p78) := of_decide_eq_false (bnot_true h111)
        replace hm := ite_no hm h111p
        refine W.sr fun K134 hK134 => ?_
        refine zE 1 (hK134 _ _ ?_)
        refine W.ret (ret_seq (ret_block (ret_seq (ret_seq (ret_block (ret_seq ?_))))))
        have hs135 := St.tk0 hs102
        refine ret_of (.bool false) (by kernel_rfl) ⟨_, ⟨congrArg Value.bool (some_inj hm), rfl⟩, hs135⟩
      ·
       have h109p : ¬ ((r83.1.toList == (strOfNums (q77.take p78.toNat)).toList) = true) := ne_true_of_eq_false (bnot_true h109)
       replace hm := ite_no hm h109p
       refine zS 177 h109 ?_
       refine zS 175 h109 ?_
       refine zS 176 h109 ?_
       refine zE 6 (hK104 _ _ ?_)
       refine W.cond_true true (by kernel_rfl) rfl ?_
       refine W.sr fun K136 hK136 => ?_
       refine zE 1 (hK136 _ _ ?_)
       refine W.ret (ret_seq (ret_block (ret_seq (ret_seq (ret_block (ret_seq ?_))))))
       have hs137 := St.tk0 hs102
       refine ret_of (.bool false) (by kernel_rfl) ⟨_, ⟨congrArg Value.bool (some_inj hm), rfl⟩, hs137⟩
     ·
      have h106p : ¬ (r90.2 = 0) := of_decide_eq_false (bnot_true h106)
      replace hm := ite_no hm h106p
      refine zS 170 h106 ?_
      refine zS 168 h106 ?_
      refine zS 169 h106 ?_
      refine zE 13 (hK104 _ _ ?_)
      refine W.cond_true true (by kernel_rfl) rfl ?_
      refine W.sr fun K138 hK138 => ?_
      refine zE 1 (hK138 _ _ ?_)
      refine W.ret (ret_seq (ret_block (ret_seq (ret_seq (ret_block (ret_seq ?_))))))
      have hs139 := St.tk0 hs102
      refine ret_of (.bool false) (by kernel_rfl) ⟨_, ⟨congrArg Value.bool (some_inj hm), rfl⟩, hs139⟩
    ·
     have h105p : ¬ (r83.2 = 0) := of_decide_eq_false (bnot_true h105)
     replace hm := ite_no hm h105p
     refine zS 166 h105 ?_
     refine zS 165 h105 ?_
     refine zE 17 (hK104 _ _ ?_)
     refine W.cond_true true (by kernel_rfl) rfl ?_
     refine W.sr fun K140 hK140 => ?_
     refine zE 1 (hK140 _ _ ?_)
     refine W.ret (ret_seq (ret_block (ret_seq (ret_seq (ret_block (ret_seq ?_))))))
     have hs141 := St.tk0 hs102
     refine ret_of (.bool false) (by kernel_rfl) ⟨_, ⟨congrArg Value.bool (some_inj hm), rfl⟩, hs141⟩
   ·
    refine W.sr fun K142 hK142 => ?_
    refine zR 1 ?_
    refine zL ⟨b69, 0, none⟩ (.int .u8 ((ss.getD p45.toNat dSt14).c0)) (hs72.cellAt 0 rfl rfl) ?_
    refine zE 2 (hK142 _ _ ?_)
    refine W.cond (decide (((ss.getD p45.toNat dSt14).c0).tmod 2 = 0)) (by kernel_rfl) (fun h143 => ?_) (fun h143 => ?_)
    ·
     obtain ⟨h143p, hm⟩ := iY hm h143
     refine W.sr fun K144 hK144 => ?_
     refine zR 1 ?_
     refine zL ⟨b69, 4, none⟩ (.string ((ss.getD p45.toNat dSt14).c4)) (hs72.cellAt 0 rfl rfl) ?_
     refine zR 1 ?_
     refine zL ⟨b69, 4, none⟩ (.string ((ss.getD p45.toNat dSt14).c4)) (hs72.cellAt 0 rfl rfl) ?_
     refine zR 2 ?_
     obtain ⟨h145, hm⟩ := need_some hm
     refine ops_R (v := (.string (((ss.getD p45.toNat dSt14).c4).extract 0 ((mn (((ss.getD p45.toNat dSt14).c4).size : Int) 128).toNat)))) (runs_strSlice (b := (ss.getD p45.toNat dSt14).c4) (lo := none) (hi := (some (mn (((ss.getD p45.toNat dSt14).c4).size : Int) 128))) 0 ((mn (((ss.getD p45.toNat dSt14).c4).size : Int) 128).toNat) (.inr ⟨rfl, rfl⟩) (.inl (congrArg some (nat_of (Int.le_trans h145.1 h145.2.1)))) (by omega) (by omega) (by kernel_rfl)) ?_
     refine zE 1 (hK144 _ _ ?_)
     refine W.sr fun K146 hK146 => ?_
     refine zR 1 ?_
     refine ops_R (runs_loadAgg (ad := ⟨b26, 0, none⟩) (cs := [(.int .i64 1), (.int .i64 (2 + 1 % 20)), (.int .i64 (2 + b_ % 60))]) (by kernel_rfl) (cells_sub (hs72.heapAt 2 rfl) rfl)) ?_
     refine zR 1 ?_
     obtain ⟨h147, hm⟩ := need_some hm
     refine zI _ (wrap_u64 h147.1 (Int.lt_of_le_of_lt h147.2 (by decide))) ?_
     refine zR 1 ?_
     obtain ⟨r148, h149, hm⟩ := bind_some hm
     have hs150 := St.f1 hs72
     refine zC11 hs150 (dWrite_walk (vb := b57) (hG := hG) (hT := (hs72.oldCells hT)) (img := q42) (l := []) (gw := 1) (gi := (2 + 1 % 20)) (gb := (2 + b_ % 60)) (n_ := 2) (at_ := r75) (tx_ := (((ss.getD p45.toNat dSt14).c4).extract 0 ((mn (((ss.getD p45.toNat dSt14).c4).size : Int) 128).toNat))) (hm := h149) B _) fun w151 hs153 => ?_
     refine zE 1 (hK146 _ _ ?_)
     refine W.seq_join (fun s_ w_ => (∃ us, s_ = slots 192 [(1, (.slice sa ss.length sc)), (5, (.pointer (some ⟨b26, 0, none⟩))), (7, (.pointer (some ⟨b36, 0, none⟩))), (8, (.int .i64 p44)), (9, (.int .i64 p45)), (10, (.pointer (some ⟨b57, 0, none⟩))), (12, (.int .i64 r75)), (13, (.string (((ss.getD p45.toNat dSt14).c4).extract 0 ((mn (((ss.getD p45.toNat dSt14).c4).size : Int) 128).toNat)))), (14, (.int .i64 r148.1))] us) ∧ St B w [] w_ [blk b26 (.cells [(.int .i64 1), (.int .i64 (2 + 1 % 20)), (.int .i64 (2 + b_ % 60))].toArray 23 (0, 0)), blk b36 (.cells (kU8.cells q43).toArray 73 (0, 0)), viewA (ptr b57) q42 r148.2, blk b69 (.cells [(.int .u8 ((ss.getD p45.toNat dSt14).c0)), (.int .i64 ((ss.getD p45.toNat dSt14).c1)), (.int .u64 ((ss.getD p45.toNat dSt14).c2)), (.int .u64 ((ss.getD p45.toNat dSt14).c3)), (.string ((ss.getD p45.toNat dSt14).c4)), (.bool ((ss.getD p45.toNat dSt14).c5))].toArray 75 (0, 0)), kU64.row m40 m41 q42] ∧ dataholds_J3 b_ ss k46 q42 q43 p44 p45 r75 r148 = some true) ?_ ?_
     ·
      rintro _ w154 ⟨⟨us, rfl⟩, hs155, hm⟩
      unfold dataholds_J3 at hm
      refine W.seq_join (fun s_ w_ => ∃ (q156 : List Int), (∃ us, s_ = slots 192 [(1, (.slice sa ss.length sc)), (5, (.pointer (some ⟨b26, 0, none⟩))), (7, (.pointer (some ⟨b36, 0, none⟩))), (8, (.int .i64 p44)), (9, (.int .i64 p45)), (10, (.pointer (some ⟨b57, 0, none⟩))), (12, (.int .i64 r75)), (13, (.string (((ss.getD p45.toNat dSt14).c4).extract 0 ((mn (((ss.getD p45.toNat dSt14).c4).size : Int) 128).toNat)))), (14, (.int .i64 r148.1))] us) ∧ St B w [] w_ [blk b26 (.cells [(.int .i64 1), (.int .i64 (2 + 1 % 20)), (.int .i64 (2 + b_ % 60))].toArray 23 (0, 0)), blk b36 (.cells (kU8.cells q156).toArray 73 (0, 0)), viewA (ptr b57) q42 r148.2, blk b69 (.cells [(.int .u8 ((ss.getD p45.toNat dSt14).c0)), (.int .i64 ((ss.getD p45.toNat dSt14).c1)), (.int .u64 ((ss.getD p45.toNat dSt14).c2)), (.int .u64 ((ss.getD p45.toNat dSt14).c3)), (.string ((ss.getD p45.toNat dSt14).c4)), (.bool ((ss.getD p45.toNat dSt14).c5))].toArray 75 (0, 0)), kU64.row m40 m41 q42] ∧ dataholds_J4 b_ ss k46 q42 p44 p45 r75 r148 q156 = some true) ?_ ?_
      ·
       rintro _ w157 ⟨q156, ⟨us, rfl⟩, hs158, hm⟩
       unfold dataholds_J4 at hm
       refine W.seq_join (fun s_ w_ => ∃ (p159 : Int), (∃ us, s_ = slots 192 [(1, (.slice sa ss.length sc)), (5, (.pointer (some ⟨b26, 0, none⟩))), (7, (.pointer (some ⟨b36, 0, none⟩))), (8, (.int .i64 p159)), (9, (.int .i64 p45)), (10, (.pointer (some ⟨b57, 0, none⟩))), (14, (.int .i64 r148.1))] us) ∧ St B w [] w_ [blk b26 (.cells [(.int .i64 1), (.int .i64 (2 + 1 % 20)), (.int .i64 (2 + b_ % 60))].toArray 23 (0, 0)), blk b36 (.cells (kU8.cells q156).toArray 73 (0, 0)), viewA (ptr b57) q42 r148.2, blk b69 (.cells [(.int .u8 ((ss.getD p45.toNat dSt14).c0)), (.int .i64 ((ss.getD p45.toNat dSt14).c1)), (.int .u64 ((ss.getD p45.toNat dSt14).c2)), (.int .u64 ((ss.getD p45.toNat dSt14).c3)), (.string ((ss.getD p45.toNat dSt14).c4)), (.bool ((ss.getD p45.toNat dSt14).c5))].toArray 75 (0, 0)), kU64.row m40 m41 q42] ∧ dataholds_J5 b_ k46 q42 p45 r148 q156 p159 = some true) ?_ ?_
       ·
        rintro _ w160 ⟨p159, ⟨us, rfl⟩, hs161, hm⟩
        unfold dataholds_J5 at hm
        refine W.sr fun K162 hK162 => ?_
        refine zR 3 ?_
        rcases Bool.eq_false_or_eq_true (!decide (r148.1 = 0)) with h163 | h163
        rotate_left
        ·
         have h163p : r148.1 = 0 := of_decide_eq_true (bnot_false h163)
         replace hm := ite_yes hm h163p
         refine zS 117 h163 ?_
         refine zS 116 h163 ?_
         refine zE 5 (hK162 _ _ ?_)
         refine W.cond_false false (by kernel_rfl) rfl ?_
         refine W.skip ?_
         exact ⟨q156, p159, r148.2, slots_intro _ (by kernel_rfl), hs161, hm⟩
        ·
         have h163p : ¬ (r148.1 = 0) := of_decide_eq_false (bnot_true h163)
         replace hm := ite_no hm h163p
         refine zS 117 h163 ?_
         refine zS 116 h163 ?_
         refine zR 1 ?_
         refine ops_call0 hs161 (by kernel_rfl) (writes_spec (hv := (hs161.entAt 2 rfl viewA_at)) B _) ?_
         rintro _ _ w166 ⟨a164, c165, rfl, rfl⟩ hs167
         have hs168 := St.ap1 hs167
         refine zE 3 (hK162 _ _ ?_)
         refine W.cond (decide ((r148.2.length : Int) > 0)) (by kernel_rfl) (fun h169 => ?_) (fun h169 => ?_)
         ·
          obtain ⟨h169p, hm⟩ := iY hm h169
          refine W.sr fun K170 hK170 => ?_
          refine zE 1 (hK170 _ _ ?_)
          refine W.ret (ret_seq (ret_block (ret_seq (ret_seq (ret_block (ret_seq ?_))))))
          have hs171 := St.tk0 hs168
          refine ret_of (.bool false) (by kernel_rfl) ⟨_, ⟨congrArg Value.bool (some_inj hm), rfl⟩, hs171⟩
         ·
          obtain ⟨h169p, hm⟩ := iN hm h169
          refine W.skip ?_
          have hs172 := St.f5 hs168
          have hs173 := St.f5 hs172
          have hs174 := St.f5 hs173
          have hs175 := St.f5 hs174
          have hs176 := St.f5 hs175
          have hs177 := St.tk5 hs176
          exact ⟨q156, p159, r148.2, slots_intro _ (by kernel_rfl), hs177, hm⟩
       ·
        refine W.seq_join (fun s_ w_ => ∃ (p178 : Bool), (∃ us, s_ = slots 192 [(1, (.slice sa ss.length sc)), (5, (.pointer (some ⟨b26, 0, none⟩))), (7, (.pointer (some ⟨b36, 0, none⟩))), (8, (.int .i64 p44)), (9, (.int .i64 p45)), (10, (.pointer (some ⟨b57, 0, none⟩))), (12, (.int .i64 r75)), (13, (.string (((ss.getD p45.toNat dSt14).c4).extract 0 ((mn (((ss.getD p45.toNat dSt14).c4).size : Int) 128).toNat)))), (14, (.int .i64 r148.1)), (108, (.bool p178))] us) ∧ St B w [] w_ [blk b26 (.cells [(.int .i64 1), (.int .i64 (2 + 1 % 20)), (.int .i64 (2 + b_ % 60))].toArray 23 (0, 0)), blk b36 (.cells (kU8.cells q156).toArray 73 (0, 0)), viewA (ptr b57) q42 r148.2, blk b69 (.cells [(.int .u8 ((ss.getD p45.toNat dSt14).c0)), (.int .i64 ((ss.getD p45.toNat dSt14).c1)), (.int .u64 ((ss.getD p45.toNat dSt14).c2)), (.int .u64 ((ss.getD p45.toNat dSt14).c3)), (.string ((ss.getD p45.toNat dSt14).c4)), (.bool ((ss.getD p45.toNat dSt14).c5))].toArray 75 (0, 0)), kU64.row m40 m41 q42] ∧ dataholds_J6 b_ ss k46 q42 p44 p45 r75 r148 q156 p178 = some true) ?_ ?_
        ·
         rintro _ w179 ⟨p178, ⟨us, rfl⟩, hs180, hm⟩
         unfold dataholds_J6 at hm
         refine W.cond p178 (by kernel_rfl) (fun h181 => ?_) (fun h181 => ?_)
         ·
          have h181p : p178 = true := h181
          replace hm := ite_yes hm h181p
          refine W.region ?_
          refine zR 4 ?_
          obtain ⟨h182, hm⟩ := need_some hm
          refine zI _ (wrap_i64 h182.1 h182.2) ?_
          refine zR 2 ?_
          obtain ⟨r183, h184, hm⟩ := bind_some hm
          replace h184 := some_inj h184
          refine ops_set 8 (v := .int .i64 r183) (Eq.trans (by kernel_rfl) (congrArg (Value.int .i64) h184)) ?_
          refine zD ?_
          exact ⟨r183, slots_intro _ (by kernel_rfl), hs180, hm⟩
         ·
          have h181p : ¬ (p178 = true) := ne_true_of_eq_false h181
          replace hm := ite_no hm h181p
          refine W.skip ?_
          exact ⟨p44, slots_intro _ (by kernel_rfl), hs180, hm⟩
        ·
         refine W.region ?_
         refine zR 3 ?_
         rcases Bool.eq_false_or_eq_true (decide (r148.1 = 0)) with h185 | h185
         ·
          obtain ⟨h185p, hm⟩ := iY hm h185
          refine zS 104 h185 ?_
          refine zS 103 h185 ?_
          refine zE 4 ?_
          exact ⟨(decide (((((ss.getD p45.toNat dSt14).c4).extract 0 ((mn (((ss.getD p45.toNat dSt14).c4).size : Int) 128).toNat)).size : Int) > 0)), slots_intro _ (by kernel_rfl), hs158, hm⟩
         ·
          obtain ⟨h185p, hm⟩ := iN hm h185
          refine zS 104 h185 ?_
          refine zS 103 h185 ?_
          refine zE 4 ?_
          exact ⟨false, slots_intro _ (by kernel_rfl), hs158, hm⟩
      ·
       refine W.sr fun K186 hK186 => ?_
       refine zE 1 (hK186 _ _ ?_)
       refine W.block ?_
       refine W.loop_iter (G := (List Int) × Int) (σ := (List Int) × Int) (fun | (q187, p188) => (q187, p188)) (fun | (q187, p188), s_, w_ => (∃ us, s_ = slots 192 [(1, (.slice sa ss.length sc)), (5, (.pointer (some ⟨b26, 0, none⟩))), (7, (.pointer (some ⟨b36, 0, none⟩))), (8, (.int .i64 p44)), (9, (.int .i64 p45)), (10, (.pointer (some ⟨b57, 0, none⟩))), (12, (.int .i64 r75)), (13, (.string (((ss.getD p45.toNat dSt14).c4).extract 0 ((mn (((ss.getD p45.toNat dSt14).c4).size : Int) 128).toNat)))), (14, (.int .i64 r148.1)), (15, (.int .i64 p188))] us) ∧ St B w [] w_ [blk b26 (.cells [(.int .i64 1), (.int .i64 (2 + 1 % 20)), (.int .i64 (2 + b_ % 60))].toArray 23 (0, 0)), blk b36 (.cells (kU8.cells q187).toArray 73 (0, 0)), viewA (ptr b57) q42 r148.2, blk b69 (.cells [(.int .u8 ((ss.getD p45.toNat dSt14).c0)), (.int .i64 ((ss.getD p45.toNat dSt14).c1)), (.int .u64 ((ss.getD p45.toNat dSt14).c2)), (.int .u64 ((ss.getD p45.toNat dSt14).c3)), (.string ((ss.getD p45.toNat dSt14).c4)), (.bool ((ss.getD p45.toNat dSt14).c5))].toArray 75 (0, 0)), kU64.row m40 m41 q42]) (q43, 0) ⟨slots_intro _ (by kernel_rfl), hs155⟩ hm ?_
       rintro k189 ih190 ⟨q187, p188⟩ _ w191 ⟨⟨us, rfl⟩, hs192⟩ hm
       replace hm : dataholds_B1 b_ ss k46 q42 p44 p45 r75 r148 k189 q187 p188 = some true := hm
       unfold dataholds_B1 at hm
       refine W.seq fun K193 hK193 => ?_
       refine W.sr fun K194 hK194 => ?_
       refine zR 5 ?_
       rcases Bool.eq_false_or_eq_true (decide (p188 < ((((ss.getD p45.toNat dSt14).c4).extract 0 ((mn (((ss.getD p45.toNat dSt14).c4).size : Int) 128).toNat)).size : Int))) with h195 | h195
       ·
        obtain ⟨h195p, hm⟩ := iY hm h195
        refine zS 89 h195 ?_
        refine zS 88 h195 ?_
        refine zE 3 (hK194 _ _ ?_)
        refine W.cond (decide (r148.1 = 0)) (by kernel_rfl) (fun h196 => ?_) (fun h196 => ?_)
        ·
         obtain ⟨h196p, hm⟩ := iY hm h196
         refine W.skip ?_
         refine hK193 _ _ ?_
         refine W.seq fun K197 hK197 => ?_
         refine W.block ?_
         refine W.region ?_
         refine zR 2 ?_
         obtain ⟨h198, hm⟩ := need_some hm
         refine zI _ (wrap_i64 h198.1 h198.2) ?_
         refine zR 2 ?_
         obtain ⟨h199, hm⟩ := need_some hm
         refine ops_R (v := (.int .u8 (sbyte (((ss.getD p45.toNat dSt14).c4).extract 0 ((mn (((ss.getD p45.toNat dSt14).c4).size : Int) 128).toNat)) p188))) (runs_strIdx (b := (((ss.getD p45.toNat dSt14).c4).extract 0 ((mn (((ss.getD p45.toNat dSt14).c4).size : Int) 128).toNat))) (k := p188) h199 (by kernel_rfl)) ?_
         obtain ⟨h202, hm⟩ := need_some hm
         have hk200 : (r75 + p188).toNat < 768 := by omega
         obtain ⟨h203, hm⟩ := need_some hm
         have hl201 : (r75 + p188).toNat < q187.length := by omega
         refine ops_R (v := .pointer (some (adr (some ⟨b36, 0, none⟩) (((r75 + p188).toNat) * 1)))) (runs_indexA (ad := ⟨b36, 0, none⟩) (n := 768) (z := (r75 + p188)) (size := 1) ((r75 + p188).toNat) (nat_of h202.1) hk200 (by kernel_rfl)) ?_
         have hs206 := St.f1 hs192
         refine ops_storeArr kU8 (j := 0) (vs := [(.int .u8 (sbyte (((ss.getD p45.toNat dSt14).c4).extract 0 ((mn (((ss.getD p45.toNat dSt14).c4).size : Int) 128).toNat)) p188))]) 0 (sbyte (((ss.getD p45.toNat dSt14).c4).extract 0 ((mn (((ss.getD p45.toNat dSt14).c4).size : Int) 128).toNat)) p188) hs206 hl201 (Nat.le_of_ble_eq_true rfl) rfl rfl (by kernel_rfl) (fun w204 hs205 => ?_)
         refine zD ?_
         refine normal_block ?_
         refine hK197 _ _ ?_
         refine W.region ?_
         refine zR 1 ?_
         obtain ⟨h207, hm⟩ := need_some hm
         refine zI _ (wrap_i64 h207.1 h207.2) ?_
         refine zE 1 ?_
         have hs208 := St.f4 hs205
         have hs209 := St.f4 hs208
         have hs210 := St.f4 hs209
         have hs211 := St.f3 hs210
         have hs212 := St.f4 hs211
         refine loopAt_next ?_
         exact ih190 ((q187.set ((r75 + p188).toNat) (sbyte (((ss.getD p45.toNat dSt14).c4).extract 0 ((mn (((ss.getD p45.toNat dSt14).c4).size : Int) 128).toNat)) p188)), (p188 + 1)) _ _ ⟨slots_intro _ (by kernel_rfl), hs212⟩ hm
        ·
         obtain ⟨h196p, hm⟩ := iN hm h196
         refine W.exit (exit_seq (exit_seq (exit_here ?_)))
         exact ⟨q187, slots_intro _ (by kernel_rfl), hs192, hm⟩
       ·
        obtain ⟨h195p, hm⟩ := iN hm h195
        refine zS 89 h195 ?_
        refine zS 88 h195 ?_
        refine zE 3 (hK194 _ _ ?_)
        refine W.cond_false false (by kernel_rfl) rfl ?_
        refine W.exit (exit_seq (exit_seq (exit_here ?_)))
        exact ⟨q187, slots_intro _ (by kernel_rfl), hs192, hm⟩
     ·
      refine W.sr fun K213 hK213 => ?_
      refine zR 5 ?_
      obtain ⟨h214, hm⟩ := need_some hm
      refine zI _ (wrap_i64 h214.1 h214.2) ?_
      refine zR 3 ?_
      rcases Bool.eq_false_or_eq_true (!((decide (r148.1 = 8)) == (decide ((r75 + ((((ss.getD p45.toNat dSt14).c4).extract 0 ((mn (((ss.getD p45.toNat dSt14).c4).size : Int) 128).toNat)).size : Int)) > 768)))) with h215 | h215
      rotate_left
      ·
       have h215p : ((r148.1 = 8) ↔ ((r75 + ((((ss.getD p45.toNat dSt14).c4).extract 0 ((mn (((ss.getD p45.toNat dSt14).c4).size : Int) 128).toNat)).size : Int)) > 768)) := beq_yes decide_eq_true_iff decide_eq_true_iff (bnot_false h215)
       replace hm := ite_yes hm h215p
       refine zS 73 h215 ?_
       refine zS 72 h215 ?_
       refine zR 3 ?_
       rcases Bool.eq_false_or_eq_true (!decide (r148.1 = 0)) with h216 | h216
       rotate_left
       ·
        have h216p : r148.1 = 0 := of_decide_eq_true (bnot_false h216)
        replace hm := ite_yes hm h216p
        refine zS 76 h216 ?_
        refine zS 75 h216 ?_
        refine zE 8 (hK213 _ _ ?_)
        refine W.cond_false false (by kernel_rfl) rfl ?_
        refine W.skip ?_
        have hs217 := St.f3 hs153
        have hs218 := St.f2 hs217
        have hs219 := St.f2 hs218
        have hs220 := St.f4 hs219
        have hs221 := St.f4 hs220
        exact ⟨slots_intro _ (by kernel_rfl), hs221, hm⟩
       ·
        have h216p : ¬ (r148.1 = 0) := of_decide_eq_false (bnot_true h216)
        replace hm := ite_no hm h216p
        refine zS 76 h216 ?_
        refine zS 75 h216 ?_
        refine zR 4 ?_
        rcases Bool.eq_false_or_eq_true (!decide (r148.1 = 8)) with h222 | h222
        rotate_left
        ·
         have h222p : r148.1 = 8 := of_decide_eq_true (bnot_false h222)
         replace hm := ite_yes hm h222p
         refine zS 80 h222 ?_
         refine zS 78 h222 ?_
         refine zS 79 h222 ?_
         refine zE 4 (hK213 _ _ ?_)
         refine W.cond_false false (by kernel_rfl) rfl ?_
         refine W.skip ?_
         have hs223 := St.f3 hs153
         have hs224 := St.f2 hs223
         have hs225 := St.f2 hs224
         have hs226 := St.f4 hs225
         have hs227 := St.f4 hs226
         exact ⟨slots_intro _ (by kernel_rfl), hs227, hm⟩
        ·
         have h222p : ¬ (r148.1 = 8) := of_decide_eq_false (bnot_true h222)
         replace hm := ite_no hm h222p
         refine zS 80 h222 ?_
         refine zS 78 h222 ?_
         refine zS 79 h222 ?_
         refine zE 4 (hK213 _ _ ?_)
         refine W.cond (!decide (r148.1 = 7)) (by kernel_rfl) (fun h228 => ?_) (fun h228 => ?_)
         rotate_left
         ·
          have h228p : r148.1 = 7 := of_decide_eq_true (bnot_false h228)
          replace hm := ite_yes hm h228p
          refine W.skip ?_
          have hs229 := St.f3 hs153
          have hs230 := St.f2 hs229
          have hs231 := St.f2 hs230
          have hs232 := St.f4 hs231
          have hs233 := St.f4 hs232
          exact ⟨slots_intro _ (by kernel_rfl), hs233, hm⟩
         ·
          have h228p : ¬ (r148.1 = 7) := of_decide_eq_false (bnot_true h228)
          replace hm := ite_no hm h228p
          refine W.sr fun K234 hK234 => ?_
          refine zE 1 (hK234 _ _ ?_)
          refine W.ret (ret_seq (ret_seq (ret_block (ret_seq (ret_seq (ret_block (ret_seq ?_)))))))
          have hs235 := St.tk0 hs153
          refine ret_of (.bool false) (by kernel_rfl) ⟨_, ⟨congrArg Value.bool (some_inj hm), rfl⟩, hs235⟩
      ·
       have h215p : ¬ ((r148.1 = 8) ↔ ((r75 + ((((ss.getD p45.toNat dSt14).c4).extract 0 ((mn (((ss.getD p45.toNat dSt14).c4).size : Int) 128).toNat)).size : Int)) > 768)) := beq_no decide_eq_true_iff decide_eq_true_iff (bnot_true h215)
       replace hm := ite_no hm h215p
       refine zS 73 h215 ?_
       refine zS 72 h215 ?_
       refine zE 11 (hK213 _ _ ?_)
       refine W.cond_true true (by kernel_rfl) rfl ?_
       refine W.sr fun K236 hK236 => ?_
       refine zE 1 (hK236 _ _ ?_)
       refine W.ret (ret_seq (ret_seq (ret_block (ret_seq (ret_seq (ret_block (ret_seq ?_)))))))
       have hs237 := St.tk0 hs153
       refine ret_of (.bool false) (by kernel_rfl) ⟨_, ⟨congrArg Value.bool (some_inj hm), rfl⟩, hs237⟩
    ·
     obtain ⟨h143p, hm⟩ := iN hm h143
     refine W.sr fun K238 hK238 => ?_
     refine zR 1 ?_
     refine ops_R (runs_loadAgg (ad := ⟨b26, 0, none⟩) (cs := [(.int .i64 1), (.int .i64 (2 + 1 % 20)), (.int .i64 (2 + b_ % 60))]) (by kernel_rfl) (cells_sub (hs72.heapAt 2 rfl) rfl)) ?_
     refine zR 1 ?_
     obtain ⟨h239, hm⟩ := need_some hm
     refine zI _ (wrap_u64 h239.1 (Int.lt_of_le_of_lt h239.2 (by decide))) ?_
     obtain ⟨r240, h241, hm⟩ := bind_some hm
     have hs242 := St.f1 hs72
     refine zC11 hs242 (dResize_walk (vb := b57) (img := q42) (l := []) (gw := 1) (gi := (2 + 1 % 20)) (gb := (2 + b_ % 60)) (n_ := 2) (sz_ := r75) (hm := h241) B _) fun w243 hs245 => ?_
     refine zE 1 (hK238 _ _ ?_)
     refine W.seq_join (fun s_ w_ => (∃ us, s_ = slots 192 [(1, (.slice sa ss.length sc)), (5, (.pointer (some ⟨b26, 0, none⟩))), (7, (.pointer (some ⟨b36, 0, none⟩))), (8, (.int .i64 p44)), (9, (.int .i64 p45)), (10, (.pointer (some ⟨b57, 0, none⟩))), (12, (.int .i64 r75)), (16, (.int .i64 r240.1))] us) ∧ St B w [] w_ [blk b26 (.cells [(.int .i64 1), (.int .i64 (2 + 1 % 20)), (.int .i64 (2 + b_ % 60))].toArray 23 (0, 0)), blk b36 (.cells (kU8.cells q43).toArray 73 (0, 0)), viewA (ptr b57) q42 r240.2, blk b69 (.cells [(.int .u8 ((ss.getD p45.toNat dSt14).c0)), (.int .i64 ((ss.getD p45.toNat dSt14).c1)), (.int .u64 ((ss.getD p45.toNat dSt14).c2)), (.int .u64 ((ss.getD p45.toNat dSt14).c3)), (.string ((ss.getD p45.toNat dSt14).c4)), (.bool ((ss.getD p45.toNat dSt14).c5))].toArray 75 (0, 0)), kU64.row m40 m41 q42] ∧ dataholds_J8 b_ k46 q42 q43 p44 p45 r75 r240 = some true) ?_ ?_
     ·
      rintro _ w246 ⟨⟨us, rfl⟩, hs247, hm⟩
      unfold dataholds_J8 at hm
      refine W.sr fun K248 hK248 => ?_
      refine zE 2 (hK248 _ _ ?_)
      refine W.cond (decide (r240.1 = 0)) (by kernel_rfl) (fun h249 => ?_) (fun h249 => ?_)
      ·
       obtain ⟨h249p, hm⟩ := iY hm h249
       refine W.seq fun K250 hK250 => ?_
       refine W.sr fun K251 hK251 => ?_
       refine zE 2 (hK251 _ _ ?_)
       refine W.block ?_
       refine W.loop_iter (G := (List Int) × Int) (σ := (List Int) × Int) (fun | (q252, p253) => (q252, p253)) (fun | (q252, p253), s_, w_ => (∃ us, s_ = slots 192 [(1, (.slice sa ss.length sc)), (5, (.pointer (some ⟨b26, 0, none⟩))), (7, (.pointer (some ⟨b36, 0, none⟩))), (8, (.int .i64 p44)), (9, (.int .i64 p45)), (10, (.pointer (some ⟨b57, 0, none⟩))), (12, (.int .i64 r75)), (17, (.int .i64 p253))] us) ∧ St B w [] w_ [blk b26 (.cells [(.int .i64 1), (.int .i64 (2 + 1 % 20)), (.int .i64 (2 + b_ % 60))].toArray 23 (0, 0)), blk b36 (.cells (kU8.cells q252).toArray 73 (0, 0)), viewA (ptr b57) q42 r240.2, blk b69 (.cells [(.int .u8 ((ss.getD p45.toNat dSt14).c0)), (.int .i64 ((ss.getD p45.toNat dSt14).c1)), (.int .u64 ((ss.getD p45.toNat dSt14).c2)), (.int .u64 ((ss.getD p45.toNat dSt14).c3)), (.string ((ss.getD p45.toNat dSt14).c4)), (.bool ((ss.getD p45.toNat dSt14).c5))].toArray 75 (0, 0)), kU64.row m40 m41 q42]) (q43, r75) ⟨slots_intro _ (by kernel_rfl), hs247⟩ hm ?_
       rintro k254 ih255 ⟨q252, p253⟩ _ w256 ⟨⟨us, rfl⟩, hs257⟩ hm
       replace hm : dataholds_B2 b_ k46 q42 p44 p45 r75 r240 k254 q252 p253 = some true := hm
       unfold dataholds_B2 at hm
       refine W.seq fun K258 hK258 => ?_
       refine W.sr fun K259 hK259 => ?_
       refine zE 3 (hK259 _ _ ?_)
       refine W.cond (decide (p253 < p44)) (by kernel_rfl) (fun h260 => ?_) (fun h260 => ?_)
       ·
        obtain ⟨h260p, hm⟩ := iY hm h260
        refine W.skip ?_
        refine hK258 _ _ ?_
        refine W.seq fun K261 hK261 => ?_
        refine W.block ?_
        refine W.region ?_
        refine zR 1 ?_
        obtain ⟨h264, hm⟩ := need_some hm
        have hk262 : p253.toNat < 768 := by omega
        obtain ⟨h265, hm⟩ := need_some hm
        have hl263 : p253.toNat < q252.length := by omega
        refine ops_R (v := .pointer (some (adr (some ⟨b36, 0, none⟩) (p253.toNat * 1)))) (runs_indexA (ad := ⟨b36, 0, none⟩) (n := 768) (z := p253) (size := 1) p253.toNat (nat_of h264.1) hk262 (by kernel_rfl)) ?_
        have hs268 := St.f1 hs257
        refine ops_storeArr kU8 (j := 0) (vs := [(.int .u8 0)]) 0 0 hs268 hl263 (Nat.le_of_ble_eq_true rfl) rfl rfl (by kernel_rfl) (fun w266 hs267 => ?_)
        refine zD ?_
        refine normal_block ?_
        refine hK261 _ _ ?_
        refine W.region ?_
        refine zR 1 ?_
        obtain ⟨h269, hm⟩ := need_some hm
        refine zI _ (wrap_i64 h269.1 h269.2) ?_
        refine zE 1 ?_
        have hs270 := St.f4 hs267
        have hs271 := St.f4 hs270
        have hs272 := St.f4 hs271
        have hs273 := St.f3 hs272
        have hs274 := St.f4 hs273
        refine loopAt_next ?_
        exact ih255 ((q252.set p253.toNat 0), (p253 + 1)) _ _ ⟨slots_intro _ (by kernel_rfl), hs274⟩ hm
       ·
        obtain ⟨h260p, hm⟩ := iN hm h260
        refine W.exit (exit_seq (exit_seq (exit_here ?_)))
        refine hK250 _ _ ?_
        refine W.region ?_
        refine zE 2 ?_
        exact ⟨q252, r75, r240.2, slots_intro _ (by kernel_rfl), hs257, hm⟩
      ·
       obtain ⟨h249p, hm⟩ := iN hm h249
       refine W.skip ?_
       exact ⟨q43, p44, r240.2, slots_intro _ (by kernel_rfl), hs247, hm⟩
     ·
      refine W.sr fun K275 hK275 => ?_
      refine zR 6 ?_
      rcases Bool.eq_false_or_eq_true (!((decide (r240.1 = 0)) == (decide (r75 ≤ 768)))) with h276 | h276
      rotate_left
      ·
       have h276p : ((r240.1 = 0) ↔ (r75 ≤ 768)) := beq_yes decide_eq_true_iff decide_eq_true_iff (bnot_false h276)
       replace hm := ite_yes hm h276p
       refine zS 133 h276 ?_
       refine zS 132 h276 ?_
       refine zR 3 ?_
       rcases Bool.eq_false_or_eq_true (!decide (r240.1 = 0)) with h277 | h277
       rotate_left
       ·
        have h277p : r240.1 = 0 := of_decide_eq_true (bnot_false h277)
        replace hm := ite_yes hm h277p
        refine zS 136 h277 ?_
        refine zS 135 h277 ?_
        refine zE 4 (hK275 _ _ ?_)
        refine W.cond_false false (by kernel_rfl) rfl ?_
        refine W.skip ?_
        have hs278 := St.f3 hs245
        have hs279 := St.f2 hs278
        have hs280 := St.f2 hs279
        have hs281 := St.f4 hs280
        have hs282 := St.f4 hs281
        exact ⟨slots_intro _ (by kernel_rfl), hs282, hm⟩
       ·
        have h277p : ¬ (r240.1 = 0) := of_decide_eq_false (bnot_true h277)
        replace hm := ite_no hm h277p
        refine zS 136 h277 ?_
        refine zS 135 h277 ?_
        refine zE 4 (hK275 _ _ ?_)
        refine W.cond (!decide (r240.1 = 8)) (by kernel_rfl) (fun h283 => ?_) (fun h283 => ?_)
        rotate_left
        ·
         have h283p : r240.1 = 8 := of_decide_eq_true (bnot_false h283)
         replace hm := ite_yes hm h283p
         refine W.skip ?_
         have hs284 := St.f3 hs245
         have hs285 := St.f2 hs284
         have hs286 := St.f2 hs285
         have hs287 := St.f4 hs286
         have hs288 := St.f4 hs287
         exact ⟨slots_intro _ (by kernel_rfl), hs288, hm⟩
        ·
         have h283p : ¬ (r240.1 = 8) := of_decide_eq_false (bnot_true h283)
         replace hm := ite_no hm h283p
         refine W.sr fun K289 hK289 => ?_
         refine zE 1 (hK289 _ _ ?_)
         refine W.ret (ret_seq (ret_seq (ret_block (ret_seq (ret_seq (ret_block (ret_seq ?_)))))))
         have hs290 := St.tk0 hs245
         refine ret_of (.bool false) (by kernel_rfl) ⟨_, ⟨congrArg Value.bool (some_inj hm), rfl⟩, hs290⟩
      ·
       have h276p : ¬ ((r240.1 = 0) ↔ (r75 ≤ 768)) := beq_no decide_eq_true_iff decide_eq_true_iff (bnot_true h276)
       replace hm := ite_no hm h276p
       refine zS 133 h276 ?_
       refine zS 132 h276 ?_
       refine zE 7 (hK275 _ _ ?_)
       refine W.cond_true true (by kernel_rfl) rfl ?_
       refine W.sr fun K291 hK291 => ?_
       refine zE 1 (hK291 _ _ ?_)
       refine W.ret (ret_seq (ret_seq (ret_block (ret_seq (ret_seq (ret_block (ret_seq ?_)))))))
       have hs292 := St.tk0 hs245
       refine ret_of (.bool false) (by kernel_rfl) ⟨_, ⟨congrArg Value.bool (some_inj hm), rfl⟩, hs292⟩
  ·
   obtain ⟨h54p, hm⟩ := iN hm h54
   refine W.exit (exit_seq (exit_seq (exit_here ?_)))
   refine hK38 _ _ ?_
   refine W.sr fun K293 hK293 => ?_
   obtain ⟨r294, h295, hm⟩ := bind_some hm
   refine zC00 hs49 (works14_walk (hG := hG) (hT := (hs49.oldCells hT)) (hm := h295) B _) fun w296 hs298 => ?_
   refine zE 1 (hK293 _ _ ?_)
   refine W.ret ?_
   have hs299 := St.tk0 hs298
   refine ret_of (.bool r294) (by kernel_rfl) ⟨_, ⟨congrArg Value.bool (some_inj hm), rfl⟩, hs299⟩

end Go.Proofs.YtmmclabkkigiaaaDoor

namespace Go.Proofs.YtmmclabkkigiaaaDoor
open Go Go.RowKit
set_option linter.unusedVariables false
set_option linter.unusedSimpArgs false

def Holds (q : List Int) (l : List (Int × Int)) (f : Nat → Int) (a : List Int) : Prop := a.length = 768 ∧ ∀ i : Nat, i < 768 → a.getD i 0 = dat q l 3 f i
theorem dataholds_law {b_ : Int} {ss : List TSt14} (hb : 0 ≤ b_ ∧ b_ ≤ 255) (hs : ∀ x ∈ ss, good_St14 x) : dataholds_M b_ ss = some true := by
  refine Ok.true ?_
  obtain ⟨gb, hgb⟩ : ∃ gb, gb = 2 + b_ % 60 := ⟨_, rfl⟩
  have hg : 2 ≤ gb ∧ gb ≤ 61 := by omega
  have h0 := Fi.start (gb := gb) (by omega)
  have hl0 := h0.mp.dk.len
  unfold dataholds_M
  refine Ok.bind (great14_len ss) fun r hr => Ok.ite (fun _ => works14_stop) fun hgr => Ok.got (file14_eq hb hgb) ?_
  have hlen := hr (by simpa using hgr)
  refine Ok.iter (fun s : List Int × List Int × Int × Int => (∃ f c, Fi 3 gb s.1 [] s.2.2.1 f c ∧ Holds s.1 [] f s.2.1) ∧ 0 ≤ s.2.2.2) (fun s => ((ss.length : Int) - s.2.2.2).toNat) ?_ _ _ ⟨⟨_, _, h0, List.length_replicate .., fun i hi => by unfold dat; rw [if_pos rfl, List.getD_eq_getElem?_getD, List.getElem?_replicate]; split <;> rfl⟩, by simp⟩ (fuel_lt (by simp only; omega))
  rintro k ⟨q, al, sz, p⟩ ⟨⟨f, c, h, ha⟩, h1⟩ ih
  simp only at h ha h1 ih
  have hql := h.mp.dk.len
  have hsz := h.le
  have hs0 := h.pos
  -- behind the call
  have J2 : ∀ (al2 : List Int) (sz2 : Int) (m : List (Int × Int)) (f2 : Nat → Int) (c2 : Int), p < (ss.length : Int) → Fi 3 gb q m sz2 f2 c2 → Holds q m f2 al2 → Ok (· = true) (dataholds_J2 b_ k q p al2 sz2 m) := by
    intro al2 sz2 m f2 c2 hp hf hh
    have hle := hf.le
    have hpo := hf.pos
    have hfl := hf.flat
    have hll := hfl.mp.dk.len
    have hw := hfl.mp.dk.words
    unfold dataholds_J2
    rw [show (2 : Int) + 1 % 20 = 3 by omega, ← hgb, hf.mp.iget]
    refine Ok.got (hf.read (by unfold U64; omega) (by unfold U64; omega)) (Ok.name fun r hr => ?_)
    rw [hr]
    have e : rdL (dat q m 3 f2) (0 : Int).toNat (min (9223372036854775808 : Int).toNat (sz2 - 0).toNat) = al2.take sz2.toNat := by
      refine eq_of_getD 0 (by rw [rdL_len, List.length_take, hh.1]; omega) fun j hj => ?_
      rw [rdL_len] at hj
      rw [rdL_get hj, List.getD_eq_getElem?_getD, List.getElem?_take, if_pos (by omega), ← List.getD_eq_getElem?_getD, hh.2 j (by omega)]
      congr 1
      omega
    rw [e]
    refine Ok.yes rfl (Ok.yes rfl (Ok.need (by omega) (Ok.need (by rw [List.length_take, hh.1]; omega) (Ok.yes (by simp) (Ok.need (by omega) (Ok.yes rfl (Ok.name fun r2 hr2 => ?_)))))))
    rw [hr2]
    refine Ok.yes (by omega) (Ok.need (by omega) (ih _ ⟨⟨f2, c2, hfl, hh.1, fun i hi => ?_⟩, by simp only; omega⟩ (by simp only; omega)))
    rw [dat_flat hf.mp.dk.ok]
    exact hh.2 i hi
  show Ok (· = true) (dataholds_B0 b_ ss k q al sz p)
  unfold dataholds_B0
  refine Ok.ite (fun hp => ?_) (fun _ => works14_stop)
  have hx := hs _ (getD_in (d := dSt14) (show p.toNat < ss.length by omega))
  unfold good_St14 at hx
  have hat : (ss.getD p.toNat dSt14).c2.tmod 808 = (ss.getD p.toNat dSt14).c2 % 808 := Int.tmod_eq_emod_of_nonneg (by omega)
  rw [hat, show (2 : Int) + 1 % 20 = 3 by omega, ← hgb]
  refine Ok.need (by omega) (Ok.need (by omega) (Ok.need (by omega) (Ok.name fun at_ hat_ => ?_)))
  have hatr : 0 ≤ at_ ∧ at_ < 808 := by omega
  clear hat hat_
  have hn : 0 ≤ mn (((ss.getD p.toNat dSt14).c4.size : Int)) 128 ∧ mn (((ss.getD p.toNat dSt14).c4.size : Int)) 128 ≤ 128 ∧ mn (((ss.getD p.toNat dSt14).c4.size : Int)) 128 ≤ ((ss.getD p.toNat dSt14).c4.size : Int) := by unfold mn; split <;> omega
  have hes := ext_size (ss.getD p.toNat dSt14).c4 (mn ((ss.getD p.toNat dSt14).c4.size : Int) 128).toNat
  -- a write that is refused
  have JN : ∀ e : Int, e ≠ 0 → Ok (· = true) (dataholds_J3 b_ ss k q al sz p at_ (e, [])) := by
    intro e he
    have J4 : Ok (· = true) (dataholds_J4 b_ ss k q sz p at_ (e, []) al) := by
      unfold dataholds_J4
      refine Ok.no he ?_
      unfold dataholds_J6
      refine Ok.no (by decide) ?_
      unfold dataholds_J5
      exact Ok.no he (Ok.no (by simp) (J2 al sz [] f c hp h ha))
    unfold dataholds_J3
    refine Ok.iter (fun s : List Int × Int => s.1 = al) (fun _ => 0) ?_ _ _ rfl (fuel_lt (by omega))
    rintro k2 ⟨q2, p2⟩ e2 _
    simp only at e2
    subst e2
    unfold dataholds_B1
    exact Ok.ite (fun _ => Ok.no he J4) (fun _ => J4)
  -- one that comes off
  have JY : ∀ (m : List (Int × Int)) (sz2 : Int) (f2 : Nat → Int) (c2 : Int), Fi 3 gb q m sz2 f2 c2 → at_ + (((ss.getD p.toNat dSt14).c4.extract 0 (mn ((ss.getD p.toNat dSt14).c4.size : Int) 128).toNat).size : Int) ≤ 768 →
      sz2 = (if (((ss.getD p.toNat dSt14).c4.extract 0 (mn ((ss.getD p.toNat dSt14).c4.size : Int) 128).toNat).size : Int) > 0 then mx sz (at_ + (((ss.getD p.toNat dSt14).c4.extract 0 (mn ((ss.getD p.toNat dSt14).c4.size : Int) 128).toNat).size : Int)) else sz) →
      (∀ i : Nat, i < 768 → dat q m 3 f2 i = if at_ ≤ (i : Int) ∧ (i : Int) < at_ + (((ss.getD p.toNat dSt14).c4.extract 0 (mn ((ss.getD p.toNat dSt14).c4.size : Int) 128).toNat).size : Int) then (strNums ((ss.getD p.toNat dSt14).c4.extract 0 (mn ((ss.getD p.toNat dSt14).c4.size : Int) 128).toNat)).getD (i - at_.toNat) 0 else dat q [] 3 f i) →
      Ok (· = true) (dataholds_J3 b_ ss k q al sz p at_ (0, m)) := by
    intro m sz2 f2 c2 hf hin hse hby
    unfold dataholds_J3
    unfold dataholds_B1 dataholds_J4 dataholds_J6
    generalize (ss.getD p.toNat dSt14).c4.extract 0 (mn ((ss.getD p.toNat dSt14).c4.size : Int) 128).toNat = tx at *
    refine Ok.iter (fun s : List Int × Int => s.1.length = 768 ∧ (0 ≤ s.2 ∧ s.2 ≤ (tx.size : Int)) ∧ ∀ i : Nat, i < 768 → s.1.getD i 0 = if at_ ≤ (i : Int) ∧ (i : Int) < at_ + s.2 then (strNums tx).getD (i - at_.toNat) 0 else dat q [] 3 f i) (fun s => ((tx.size : Int) - s.2).toNat) ?_ _ _ ⟨ha.1, by simp, fun i hi => by rw [if_neg (by simp only; omega)]; exact ha.2 i hi⟩ (fuel_lt (by simp only; omega))
    rintro k2 ⟨q2, p2⟩ ⟨t1, t2, t3⟩ ih2
    simp only at t1 t2 t3 ih2
    refine Ok.ite (fun ht => Ok.yes rfl ?_) (fun ht => Ok.yes rfl ?_)
    · simp only at ht
      refine Ok.need (by simp only; omega) (Ok.need (by simp only; omega) (Ok.need (by simp only; omega) (Ok.need t1 (Ok.need (by simp only; omega) (ih2 _ ⟨by simp only [List.length_set]; exact t1, by simp only; omega, fun i hi => ?_⟩ (by simp only; omega))))))
      simp only
      rw [List.getD_eq_getElem?_getD, List.getElem?_set, sbyte_num tx (by omega)]
      by_cases e : (at_ + p2).toNat = i
      · rw [if_pos e, if_pos (by omega), if_pos (by omega), Option.getD_some]
        congr 1
        omega
      · rw [if_neg e, ← List.getD_eq_getElem?_getD, t3 i hi]
        by_cases e2 : at_ ≤ (i : Int) ∧ (i : Int) < at_ + p2
        · rw [if_pos e2, if_pos (by omega)]
        · rw [if_neg e2, if_neg (by omega)]
    · simp only at ht
      have hp2 : p2 = (tx.size : Int) := by omega
      have hh : Holds q m f2 q2 := ⟨t1, fun i hi => by rw [t3 i hi, hby i hi, hp2]⟩
      by_cases h0 : (tx.size : Int) > 0
      · rw [if_pos h0] at hse
        refine Ok.yes (decide_eq_true h0) (Ok.need (by omega) (Ok.name fun z hz => ?_))
        unfold dataholds_J5
        refine Ok.yes rfl ?_
        rw [hz, ← hse]
        exact J2 q2 sz2 m f2 c2 hp hf hh
      · rw [if_neg h0] at hse
        refine Ok.no (fun q => h0 (of_decide_eq_true q)) ?_
        unfold dataholds_J5
        refine Ok.yes rfl ?_
        rw [← hse]
        exact J2 q2 sz2 m f2 c2 hp hf hh
  refine Ok.ite (fun _ => ?_) (fun _ => ?_)
  · -- written
    refine Ok.need (by omega) (Ok.need (by omega) ?_)
    have hst := strNums_len ((ss.getD p.toNat dSt14).c4.extract 0 (mn ((ss.getD p.toNat dSt14).c4.size : Int) 128).toNat)
    rcases h.write (at_ := at_) (by unfold U64; omega) (tx := (ss.getD p.toNat dSt14).c4.extract 0 (mn ((ss.getD p.toNat dSt14).c4.size : Int) 128).toNat) (by omega) with ⟨w1, w2⟩ | ⟨w1, w3, w2⟩ | ⟨w1, w3, w4, w2⟩ | ⟨w1, w3, w4, m, f2, c2, w2, w5⟩
    · refine Ok.got w2 (Ok.need (by omega) (Ok.yes ⟨fun _ => w1, fun _ => rfl⟩ (Ok.no (by decide) (Ok.yes rfl (JN 8 (by decide))))))
    · refine Ok.got w2 (Ok.need (by omega) (Ok.yes ⟨fun q => absurd q (by decide), fun q => absurd w1 (by omega)⟩ (Ok.yes rfl (JY [] sz f c h w1 (by rw [if_neg (by omega)]) fun i hi => by rw [if_neg (by omega)]))))
    · refine Ok.got w2 (Ok.need (by omega) (Ok.yes ⟨fun q => absurd q (by decide), fun q => absurd w1 (by omega)⟩ (Ok.no (by decide) (Ok.no (by decide) (Ok.yes rfl (JN 7 (by decide)))))))
    · have hfi := w5.fi
      have hby := w5.bytes
      rw [hst] at hfi hby
      have hpos : (((ss.getD p.toNat dSt14).c4.extract 0 (mn ((ss.getD p.toNat dSt14).c4.size : Int) 128).toNat).size : Int) > 0 := by omega
      have hY := JY m _ f2 c2 hfi w1 (by rw [if_pos hpos]; rfl) hby
      refine Ok.got w2 (Ok.need (by omega) ?_)
      refine Ok.yes ⟨fun q => absurd q (show ¬ (0 : Int) = 8 by decide), fun q => absurd w1 (by omega)⟩ ?_
      exact Ok.yes rfl hY
  · -- resized
    refine Ok.need (by omega) ?_
    rcases h.resize (s := at_) (by unfold U64; omega) with ⟨w1, w2⟩ | ⟨w1, m, f2, c2, w2, w3, w4⟩
    · refine Ok.got w2 (Ok.yes ⟨fun q => absurd q (by decide), fun q => absurd w1 (by omega)⟩ (Ok.no (by decide) (Ok.yes rfl ?_)))
      unfold dataholds_J8
      exact Ok.no (by decide) (J2 al sz [] f c hp h ha)
    · refine Ok.got w2 (Ok.yes ⟨fun _ => w1, fun _ => rfl⟩ (Ok.yes rfl ?_))
      unfold dataholds_J8
      refine Ok.yes rfl ?_
      refine Ok.iter (fun s : List Int × Int => s.1.length = 768 ∧ at_ ≤ s.2 ∧ ∀ i : Nat, i < 768 → s.1.getD i 0 = if at_ ≤ (i : Int) ∧ (i : Int) < s.2 then 0 else dat q [] 3 f i) (fun s => (sz - s.2).toNat) ?_ _ _ ⟨ha.1, by simp, fun i hi => by rw [if_neg (by simp only; omega)]; exact ha.2 i hi⟩ (fuel_lt (by simp only; omega))
      rintro k2 ⟨q2, p2⟩ ⟨t1, t2, t3⟩ ih2
      simp only at t1 t2 t3 ih2
      show Ok (· = true) (dataholds_B2 b_ k q sz p at_ (0, m) k2 q2 p2)
      unfold dataholds_B2
      refine Ok.ite (fun ht => Ok.need (by omega) (Ok.need t1 (Ok.need (by omega) (ih2 _ ⟨by simp only [List.length_set]; exact t1, by simp only; omega, fun i hi => ?_⟩ (by simp only; omega))))) (fun ht => ?_)
      · simp only
        rw [List.getD_eq_getElem?_getD, List.getElem?_set]
        by_cases e : p2.toNat = i
        · rw [if_pos e, if_pos (by omega), if_pos (by omega), Option.getD_some]
        · rw [if_neg e, ← List.getD_eq_getElem?_getD, t3 i hi]
          by_cases e2 : at_ ≤ (i : Int) ∧ (i : Int) < p2
          · rw [if_pos e2, if_pos (by omega)]
          · rw [if_neg e2, if_neg (by omega)]
      · refine J2 q2 at_ m f2 c2 hp w3 ⟨t1, fun i hi => ?_⟩
        rw [t3 i hi, w4 i hi]
        by_cases e : (i : Int) < at_
        · rw [if_pos e, if_neg (by omega)]
        · rw [if_neg e]
          by_cases e2 : (i : Int) < p2
          · rw [if_pos (by omega)]
          · rw [if_neg (by omega)]
            exact h.zero i hi (by omega)
end Go.Proofs.YtmmclabkkigiaaaDoor
