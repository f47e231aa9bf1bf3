/- Texts, one behind the other: ALeTa, PLeTa, Lo, LoS, Ro15, ClA, ClB, ClC, ClD, ClE. -/
import Derived.Test.YtmmclabkkigiaaaGreatDoorRows
import Derived.Test.YtmmclabkkigiaaaGreatDoorCards
import Derived.OpenShut
import Derived.Test.YtmmclabkkigiaaaGreatDoorChecked
import Derived.Test.YtmmclabkkigiaaaGreatDoorQET7
set_option linter.unusedVariables false
set_option linter.unusedSimpArgs false
set_option linter.unusedVariables false
set_option maxRecDepth 20000
set_option maxHeartbeats 4000000
namespace Go.Proofs.YtmmclabkkigiaaaGreatDoor
open Go Go.RowKit
set_option linter.unusedSimpArgs false
set_option linter.unusedVariables false

def entrytable_J5 (b_ : Int) (k49 : ((List Int) × (List ByteArray) × (List Int) × Nat × Int) → Option (Bool)) (q40 : List Int) (p48 : Int) (q99 : List ByteArray) (q102 : List Int) (n103 : Nat) (l104 : List (Int × Int)) : Option (Bool) :=
 (some (wordsOf 1 (2 + (19 : Int) % 20) (2 + b_ % 60))).bind fun r132 =>
if (((vflat q40 l104).length) : Int) = r132 then (need (-9223372036854775808 ≤ (p48 + 1) ∧ (p48 + 1) ≤ 9223372036854775807) <|
k49 ((vflat q40 l104), q99, q102, n103, (p48 + 1))) else (some false)

def entrytable_J7 (q102 : List Int) (n103 : Nat) (k150 : Int → Option (Bool)) (p149 : Int) (p166 : ByteArray) (p167 : Int) (p168 : Int) (p169 : Int) : Option (Bool) :=
 if p169 = 0 then (need (0 ≤ p149 ∧ p149 < (n103 : Int)) <|
need (p149.toNat < q102.length) <|
if p167 = (q102.getD p149.toNat 0) then (if p168 < 0 then (some false) else (if p168 ≥ 12 then (some false) else (need (-9223372036854775808 ≤ (p149 + 1) ∧ (p149 + 1) ≤ 9223372036854775807) <|
k150 (p149 + 1)))) else (some false)) else (some false)

def entrytable_B2 (b_ : Int) (k49 : ((List Int) × (List ByteArray) × (List Int) × Nat × Int) → Option (Bool)) (q40 : List Int) (p48 : Int) (q99 : List ByteArray) (q102 : List Int) (n103 : Nat) (l104 : List (Int × Int)) (k150 : Int → Option (Bool)) (p149 : Int) : Option (Bool) :=
 if p149 < (q99.length : Int) then (need (0 ≤ p149 ∧ p149 < (q99.length : Int)) <|
(eFind_M q40 l104 1 (2 + (19 : Int) % 20) (2 + b_ % 60) 1 (q99.getD p149.toNat ByteArray.empty)).bind fun r202 =>
entrytable_J7 q102 n103 k150 p149 r202.1 r202.2.1 r202.2.2.1 r202.2.2.2) else (entrytable_J5 b_ k49 q40 p48 q99 q102 n103 l104)

def entrytable_J4 (b_ : Int) (k49 : ((List Int) × (List ByteArray) × (List Int) × Nat × Int) → Option (Bool)) (q40 : List Int) (p48 : Int) (q99 : List ByteArray) (q102 : List Int) (n103 : Nat) (l104 : List (Int × Int)) : Option (Bool) :=
 (eList_M q40 l104 1 (2 + (19 : Int) % 20) (2 + b_ % 60) 1).bind fun r111 =>
if r111.2 = 0 then (if (r111.1.length : Int) = (q99.length : Int) then (iter (fun k_ s_ => entrytable_B2 b_ k49 q40 p48 q99 q102 n103 l104 k_ s_) FUEL 0) else (some false)) else (some false)

def entrytable_J3 (b_ : Int) (k49 : ((List Int) × (List ByteArray) × (List Int) × Nat × Int) → Option (Bool)) (q40 : List Int) (p48 : Int) (r91 : Bool) (q99 : List ByteArray) (q102 : List Int) (n103 : Nat) (l104 : List (Int × Int)) (p105 : Int) : Option (Bool) :=
 if p105 = 0 then (entrytable_J4 b_ k49 q40 p48 q99 q102 n103 l104) else (if (l104.length : Int) > 0 then (some false) else (if ((p105 = 13) ↔ (¬ (r91 = true))) then (entrytable_J4 b_ k49 q40 p48 q99 q102 n103 l104) else (some false)))

def entrytable_J8 (b_ : Int) (ss : List TSt15) (k49 : ((List Int) × (List ByteArray) × (List Int) × Nat × Int) → Option (Bool)) (q40 : List Int) (q43 : List ByteArray) (q46 : List Int) (n47 : Nat) (p48 : Int) (r91 : Bool) (r366 : Int × List (Int × Int)) : Option (Bool) :=
 if r366.1 = 0 then (need (q43.length + 1 ≤ 1000000000) <|
need (q46.length + 1 ≤ 1000000000) <|
need (n47 = q46.length) <|
entrytable_J3 b_ k49 q40 p48 r91 (q43 ++ [(ss.getD p48.toNat dSt15).c2]) (q46 ++ [(1 + ((mx ((ss.getD p48.toNat dSt15).c3) 0).tmod ((2 + (19 : Int) % 20) - 1)))]) ((q46 ++ [(1 + ((mx ((ss.getD p48.toNat dSt15).c3) 0).tmod ((2 + (19 : Int) % 20) - 1)))]).length) r366.2 r366.1) else (entrytable_J3 b_ k49 q40 p48 r91 q43 q46 n47 r366.2 r366.1)

def entrytable_J2 (b_ : Int) (ss : List TSt15) (k49 : ((List Int) × (List ByteArray) × (List Int) × Nat × Int) → Option (Bool)) (q40 : List Int) (q43 : List ByteArray) (q46 : List Int) (n47 : Nat) (p48 : Int) (p87 : Int) : Option (Bool) :=
 (emay_M ((ss.getD p48.toNat dSt15).c2)).bind fun r91 =>
need (0 ≤ p48 ∧ p48 < (ss.length : Int)) <|
if ((ss.getD p48.toNat dSt15).c0).tmod 4 = 0 then ((eFind_M q40 ([]) 1 (2 + (19 : Int) % 20) (2 + b_ % 60) 1 ((ss.getD p48.toNat dSt15).c2)).bind fun r320 =>
if ((r320.2.2.2 = 0) ↔ (p87 ≥ 0)) then (if r320.2.2.2 = 0 then (if (r320.1.toList == ((ss.getD p48.toNat dSt15).c2).toList) = true then (need (0 ≤ p87 ∧ p87 < (n47 : Int)) <|
need (p87.toNat < q46.length) <|
if r320.2.1 = (q46.getD p87.toNat 0) then (entrytable_J3 b_ k49 q40 p48 r91 q43 q46 n47 ([]) r320.2.2.2) else (some false)) else (some false)) else (entrytable_J3 b_ k49 q40 p48 r91 q43 q46 n47 ([]) r320.2.2.2)) else (some false)) else (if ((ss.getD p48.toNat dSt15).c0).tmod 4 = 1 then ((eAdd_M q40 ([]) 1 (2 + (19 : Int) % 20) (2 + b_ % 60) 1 ((ss.getD p48.toNat dSt15).c2) (1 + ((mx ((ss.getD p48.toNat dSt15).c3) 0).tmod ((2 + (19 : Int) % 20) - 1)))).bind fun r366 =>
if ((r366.1 = 9) ↔ (p87 ≥ 0)) then (if r366.1 = 16 then (if (q43.length : Int) = 12 then (if r366.1 = 0 then (if (q43.length : Int) ≥ 12 then (some false) else (if ((r366.1 = 13) ↔ (¬ (r91 = true))) then (entrytable_J8 b_ ss k49 q40 q43 q46 n47 p48 r91 r366) else (some false))) else (if ((r366.1 = 13) ↔ (¬ (r91 = true))) then (entrytable_J8 b_ ss k49 q40 q43 q46 n47 p48 r91 r366) else (some false))) else (some false)) else (if r366.1 = 0 then (if (q43.length : Int) ≥ 12 then (some false) else (if ((r366.1 = 13) ↔ (¬ (r91 = true))) then (entrytable_J8 b_ ss k49 q40 q43 q46 n47 p48 r91 r366) else (some false))) else (if ((r366.1 = 13) ↔ (¬ (r91 = true))) then (entrytable_J8 b_ ss k49 q40 q43 q46 n47 p48 r91 r366) else (some false)))) else (some false)) else (if ((ss.getD p48.toNat dSt15).c0).tmod 4 = 2 then ((eChange_M q40 ([]) 1 (2 + (19 : Int) % 20) (2 + b_ % 60) 1 ((ss.getD p48.toNat dSt15).c2) (1 + ((mx ((ss.getD p48.toNat dSt15).c3) 0).tmod ((2 + (19 : Int) % 20) - 1)))).bind fun r458 =>
if ((r458.1 = 0) ↔ (p87 ≥ 0)) then (if p87 ≥ 0 then (need (0 ≤ p87 ∧ p87 < (n47 : Int)) <|
need (p87.toNat < q46.length) <|
entrytable_J3 b_ k49 q40 p48 r91 q43 (q46.set p87.toNat (1 + ((mx ((ss.getD p48.toNat dSt15).c3) 0).tmod ((2 + (19 : Int) % 20) - 1)))) n47 r458.2 r458.1) else (entrytable_J3 b_ k49 q40 p48 r91 q43 q46 n47 r458.2 r458.1)) else (some false)) else ((eRemove_M q40 ([]) 1 (2 + (19 : Int) % 20) (2 + b_ % 60) 1 ((ss.getD p48.toNat dSt15).c2)).bind fun r492 =>
if ((r492.1 = 0) ↔ (p87 ≥ 0)) then (if p87 ≥ 0 then (need (0 ≤ p87 ∧ p87 ≤ (q43.length : Int)) <|
need (-9223372036854775808 ≤ (p87 + 1) ∧ (p87 + 1) ≤ 9223372036854775807) <|
need ((0 : Int) ≤ (p87 + 1) ∧ (p87 + 1) ≤ (q43.length : Int)) <|
need (q43.length ≤ 1000000) <|
need ((q43.take p87.toNat).length + ((q43.drop ((p87 + 1).toNat)).take (q43.length - ((p87 + 1).toNat))).length ≤ 1000000000) <|
need (0 ≤ p87 ∧ p87 ≤ (n47 : Int)) <|
need (n47 = q46.length) <|
need (-9223372036854775808 ≤ (p87 + 1) ∧ (p87 + 1) ≤ 9223372036854775807) <|
need (n47 = q46.length) <|
need ((0 : Int) ≤ (p87 + 1) ∧ (p87 + 1) ≤ (q46.length : Int)) <|
need (q46.length ≤ 1000000) <|
need ((q46.take p87.toNat).length + ((q46.drop ((p87 + 1).toNat)).take (q46.length - ((p87 + 1).toNat))).length ≤ 1000000000) <|
entrytable_J3 b_ k49 q40 p48 r91 ((q43.take p87.toNat) ++ ((q43.drop ((p87 + 1).toNat)).take (q43.length - ((p87 + 1).toNat)))) ((q46.take p87.toNat) ++ ((q46.drop ((p87 + 1).toNat)).take (q46.length - ((p87 + 1).toNat)))) (((q46.take p87.toNat) ++ ((q46.drop ((p87 + 1).toNat)).take (q46.length - ((p87 + 1).toNat)))).length) r492.2 r492.1) else (entrytable_J3 b_ k49 q40 p48 r91 q43 q46 n47 r492.2 r492.1)) else (some false))))

def entrytable_B1 (b_ : Int) (ss : List TSt15) (k49 : ((List Int) × (List ByteArray) × (List Int) × Nat × Int) → Option (Bool)) (q40 : List Int) (q43 : List ByteArray) (q46 : List Int) (n47 : Nat) (p48 : Int) (k615 : (Int × Int) → Option (Bool)) (p613 : Int) (p614 : Int) : Option (Bool) :=
 if p614 < (q43.length : Int) then (need (0 ≤ p614 ∧ p614 < (q43.length : Int)) <|
if ((q43.getD p614.toNat ByteArray.empty).toList == ((ss.getD p48.toNat dSt15).c2).toList) = true then (need (-9223372036854775808 ≤ (p614 + 1) ∧ (p614 + 1) ≤ 9223372036854775807) <|
k615 (p614, (p614 + 1))) else (need (-9223372036854775808 ≤ (p614 + 1) ∧ (p614 + 1) ≤ 9223372036854775807) <|
k615 (p613, (p614 + 1)))) else (entrytable_J2 b_ ss k49 q40 q43 q46 n47 p48 p613)

def entrytable_B0 (b_ : Int) (ss : List TSt15) (k49 : ((List Int) × (List ByteArray) × (List Int) × Nat × Int) → Option (Bool)) (q40 : List Int) (q43 : List ByteArray) (q46 : List Int) (n47 : Nat) (p48 : Int) : Option (Bool) :=
 if p48 < (ss.length : Int) then (need (q40.length ≤ 17592186044415) <|
need (0 ≤ p48 ∧ p48 < (ss.length : Int)) <|
need (-9223372036854775808 ≤ ((2 + (19 : Int) % 20) - 1) ∧ ((2 + (19 : Int) % 20) - 1) ≤ 9223372036854775807) <|
need (¬ (((2 + (19 : Int) % 20) - 1) = 0)) <|
need (-9223372036854775808 ≤ (1 + ((mx ((ss.getD p48.toNat dSt15).c3) 0).tmod ((2 + (19 : Int) % 20) - 1))) ∧ (1 + ((mx ((ss.getD p48.toNat dSt15).c3) 0).tmod ((2 + (19 : Int) % 20) - 1))) ≤ 9223372036854775807) <|
iter (fun k_ s_ => entrytable_B1 b_ ss k49 q40 q43 q46 n47 p48 k_ s_.1 s_.2) FUEL ((-1), 0)) else ((works15_M).bind fun r637 =>
some r637)

def entrytable_M (b_ : Int) (ss : List TSt15) : Option (Bool) :=
 (great15_M ss).bind fun r4 =>
if r4 = true then ((works15_M).bind fun r11 =>
some r11) else (need ((0 : Int) ≤ 19 ∧ (19 : Int) ≤ 255) <|
need ((0 : Int) ≤ b_ ∧ (b_ : Int) ≤ 255) <|
iter (fun k_ s_ => entrytable_B0 b_ ss k_ s_.1 s_.2.1 s_.2.2.1 s_.2.2.2.1 s_.2.2.2.2) FUEL ((fmtW 1 (2 + (19 : Int) % 20) (2 + b_ % 60)), [], [], 0, 0))

theorem entrytable_walk {b_ : Int} {ss : List TSt15} {sa : Option Addr} {sc : Nat}  (B : Nat) (w : World) (hB : w.heap.size = B) (hT : CellsAt (some ⟨1, 0, none⟩) tab8 w) (hst : CellsAt sa (kSt15.cells ss) w) (hm : entrytable_M b_ ss = some true) : Spec Tryz.prog 7 #[(.int .u8 b_), (.slice sa ss.length sc)] B w [] (fun v H' => v = .bool true ∧ H' = []) := by
 refine spec_Q Tryz.func7 rfl fun hs => ?_
 unfold entrytable_M at hm
 have hG : 1 < B := by rw [← hB]; exact lt_of_cells hT (v := .int .u8 0) (by kernel_rfl)
 refine W.sr fun K1 hK1 => ?_
 refine zE 1 (hK1 _ _ ?_)
 refine W.seq fun K2 hK2 => ?_
 refine W.sr fun K3 hK3 => ?_
 refine zR 1 ?_
 obtain ⟨r4, h5, hm⟩ := bind_some hm
 refine zC00 hs (great15_walk (sc := sc) (hst := (hs.oldCells hst)) (hm := h5) B _) fun w6 hs8 => ?_
 refine zD (hK3 _ _ ?_)
 refine W.cond r4 (by kernel_rfl) (fun h9 => ?_) (fun h9 => ?_)
 ·
  have h9p : r4 = true := h9
  replace hm := ite_yes hm h9p
  refine W.sr fun K10 hK10 => ?_
  obtain ⟨r11, h12, hm⟩ := bind_some hm
  refine zC00 hs8 (works15_walk (hG := hG) (hT := (hs8.oldCells hT)) (hm := h12) B _) fun w13 hs15 => ?_
  refine zE 1 (hK10 _ _ ?_)
  refine W.ret (ret_seq ?_)
  refine ret_of (.bool r11) (by kernel_rfl) ⟨_, ⟨congrArg Value.bool (some_inj hm), rfl⟩, hs15⟩
 ·
  have h9p : ¬ (r4 = true) := ne_true_of_eq_false h9
  replace hm := ite_no hm h9p
  refine W.skip ?_
  refine hK2 _ _ ?_
  refine W.sr fun K16 hK16 => ?_
  refine zR 1 ?_
  obtain ⟨h17, hm⟩ := need_some hm
  obtain ⟨h18, hm⟩ := need_some hm
  refine zC00 hs8 (small_spec (x_ := (19 : Int)) (y_ := b_) (hx := h17) (hy := h18) B _) fun w19 hs21 => ?_
  refine zN [(.int .i64 0), (.int .i64 0), (.int .i64 0)] 31 hs21 fun b24 w22 hs23 => ?_
  refine ops_store (off := 0) (cs := [(.int .i64 0), (.int .i64 0), (.int .i64 0)]) (vs := [(.int .i64 1), (.int .i64 (2 + (19 : Int) % 20)), (.int .i64 (2 + b_ % 60))]) hs23 (by kernel_rfl) (by simp) rfl (fun w25 hs26 => ?_)
  have hs27 : St B w [] w25 [blk b24 (.cells [(.int .i64 1), (.int .i64 (2 + (19 : Int) % 20)), (.int .i64 (2 + b_ % 60))].toArray 31 (0, 0))] := hs26
  refine zD (hK16 _ _ ?_)
  refine W.sr fun K28 hK28 => ?_
  refine ops_R (runs_loadAgg (ad := ⟨b24, 0, none⟩) (cs := [(.int .i64 1), (.int .i64 (2 + (19 : Int) % 20)), (.int .i64 (2 + b_ % 60))]) (by kernel_rfl) (cells_sub (hs27.heapAt 0 rfl) rfl)) ?_
  refine ops_call0 hs27 (by kernel_rfl) (format_spec (gw := 1) (gi := (2 + (19 : Int) % 20)) (gb := (2 + b_ % 60)) B _) ?_
  rintro _ _ w31 ⟨a29, c30, rfl, rfl⟩ hs32
  have hs33 := St.ap1 hs32
  refine zE 1 (hK28 _ _ ?_)
  refine W.sr fun K34 hK34 => ?_
  refine zE 1 (hK34 _ _ ?_)
  refine W.sr fun K35 hK35 => ?_
  refine zE 1 (hK35 _ _ ?_)
  refine W.seq fun K36 hK36 => ?_
  refine W.sr fun K37 hK37 => ?_
  refine zE 1 (hK37 _ _ ?_)
  refine W.block ?_
  have hs53 := St.knil kStr hs33
  have hs54 := St.knil kInt hs53
  have hs55 := St.f1 hs54
  have hs56 := St.f2 hs55
  have hs57 := St.f3 hs56
  refine W.loop_iter (G := (List Int) × (List ByteArray) × (List Int) × Nat × Int × (Option Addr) × Nat × (Option Addr) × Nat × (Option Addr) × Nat) (σ := (List Int) × (List ByteArray) × (List Int) × Nat × Int) (fun | (q40, q43, q46, n47, p48, m38, m39, m41, m42, m44, m45) => (q40, q43, q46, n47, p48)) (fun | (q40, q43, q46, n47, p48, m38, m39, m41, m42, m44, m45), s_, w_ => (∃ us, s_ = slots 288 [(1, (.slice sa ss.length sc)), (5, (.pointer (some ⟨b24, 0, none⟩))), (6, (.slice m38 q40.length m39)), (7, (.slice m41 q43.length m42)), (8, (.slice m44 n47 m45)), (9, (.int .i64 p48))] us) ∧ St B w [] w_ [blk b24 (.cells [(.int .i64 1), (.int .i64 (2 + (19 : Int) % 20)), (.int .i64 (2 + b_ % 60))].toArray 31 (0, 0)), kU64.row m38 m39 q40, kStr.row m41 m42 q43, kInt.row m44 m45 q46]) ((fmtW 1 (2 + (19 : Int) % 20) (2 + b_ % 60)), [], [], 0, 0, a29, c30, none, 0, none, 0) ⟨slots_intro _ (by kernel_rfl), hs57⟩ hm ?_
  rintro k49 ih50 ⟨q40, q43, q46, n47, p48, m38, m39, m41, m42, m44, m45⟩ _ w51 ⟨⟨us, rfl⟩, hs52⟩ hm
  replace hm : entrytable_B0 b_ ss k49 q40 q43 q46 n47 p48 = some true := hm
  unfold entrytable_B0 at hm
  refine W.seq fun K58 hK58 => ?_
  refine W.sr fun K59 hK59 => ?_
  refine zE 4 (hK59 _ _ ?_)
  refine W.cond (decide (p48 < (ss.length : Int))) (by kernel_rfl) (fun h60 => ?_) (fun h60 => ?_)
  ·
   obtain ⟨h60p, hm⟩ := iY hm h60
   refine W.skip ?_
   refine hK58 _ _ ?_
   refine W.seq fun K61 hK61 => ?_
   refine W.block ?_
   refine W.sr fun K62 hK62 => ?_
   refine zR 1 ?_
   obtain ⟨h64, hm⟩ := need_some hm
   refine ops_call0 hs52 (by kernel_rfl) (new_spec (hc := (St.kcells kU64 hs52 1 rfl)) (hn := (St.capnil kU64 hs52 1 rfl)) (hsz := h64) B _) ?_
   rintro _ _ w65 ⟨b63, rfl, rfl⟩ hs66
   have hs67 := St.ap1 hs66
   refine zE 1 (hK62 _ _ ?_)
   refine W.seq fun K68 hK68 => ?_
   refine W.sr fun K69 hK69 => ?_
   refine zE 2 (hK69 _ _ ?_)
   refine W.cond_false false (by kernel_rfl) rfl ?_
   refine W.skip ?_
   refine hK68 _ _ ?_
   refine W.sr fun K70 hK70 => ?_
   refine zR 2 ?_
   obtain ⟨h72, hm⟩ := need_some hm
   have hk71 := lt_toNat h72
   refine ops_R (runs_index (a := sa) (n := ss.length) (z := p48) (size := 5) p48.toNat (nat_of h72.1) hk71 (kSt15.addr (hs67.oldCells hst) hk71) (by kernel_rfl)) ?_
   refine zR 1 ?_
   refine ops_R (runs_loadAgg (cs := [(.string ((ss.getD p48.toNat dSt15).c2)), (.int .i64 ((ss.getD p48.toNat dSt15).c3))]) (by kernel_rfl) (kSt15.all (hs67.oldCells hst) hk71 dSt15 2 rfl)) ?_
   refine zN [(.string ByteArray.empty), (.int .i64 0)] 33 hs67 fun b75 w73 hs74 => ?_
   refine ops_store (off := 0) (cs := [(.string ByteArray.empty), (.int .i64 0)]) (vs := [(.string ((ss.getD p48.toNat dSt15).c2)), (.int .i64 ((ss.getD p48.toNat dSt15).c3))]) hs74 (by kernel_rfl) (by simp) rfl (fun w76 hs77 => ?_)
   have hs78 : St B w [] w76 [blk b75 (.cells [(.string ((ss.getD p48.toNat dSt15).c2)), (.int .i64 ((ss.getD p48.toNat dSt15).c3))].toArray 33 (0, 0)), viewA (ptr b63) q40 ([]), blk b24 (.cells [(.int .i64 1), (.int .i64 (2 + (19 : Int) % 20)), (.int .i64 (2 + b_ % 60))].toArray 31 (0, 0)), kU64.row m38 m39 q40, kStr.row m41 m42 q43, kInt.row m44 m45 q46] := hs77
   refine zD (hK70 _ _ ?_)
   refine W.sr fun K79 hK79 => ?_
   refine zR 1 ?_
   refine zL ⟨b75, 1, none⟩ (.int .i64 ((ss.getD p48.toNat dSt15).c3)) (hs78.cellAt 0 rfl rfl) ?_
   refine zR 2 ?_
   refine zL ⟨b24, 1, none⟩ (.int .i64 (2 + (19 : Int) % 20)) (hs78.cellAt 2 rfl rfl) ?_
   obtain ⟨h80, hm⟩ := need_some hm
   refine zI _ (wrap_i64 h80.1 h80.2) ?_
   obtain ⟨h81, hm⟩ := need_some hm
   refine ops_R (v := .int .i64 ((mx ((ss.getD p48.toNat dSt15).c3) 0).tmod ((2 + (19 : Int) % 20) - 1))) (runs_rem (k := .i64) (a := (mx ((ss.getD p48.toNat dSt15).c3) 0)) (b := ((2 + (19 : Int) % 20) - 1)) (by kernel_rfl) h81 rfl) ?_
   obtain ⟨h82, hm⟩ := need_some hm
   refine zI _ (wrap_i64 h82.1 h82.2) ?_
   refine zR 1 ?_
   refine ops_store (off := 1) (cs := [(.string ((ss.getD p48.toNat dSt15).c2)), (.int .i64 ((ss.getD p48.toNat dSt15).c3))]) (vs := [(.int .i64 (1 + ((mx ((ss.getD p48.toNat dSt15).c3) 0).tmod ((2 + (19 : Int) % 20) - 1))))]) hs78 (by kernel_rfl) (by simp) rfl (fun w83 hs84 => ?_)
   have hs85 : St B w [] w83 [blk b75 (.cells [(.string ((ss.getD p48.toNat dSt15).c2)), (.int .i64 (1 + ((mx ((ss.getD p48.toNat dSt15).c3) 0).tmod ((2 + (19 : Int) % 20) - 1))))].toArray 33 (0, 0)), viewA (ptr b63) q40 ([]), blk b24 (.cells [(.int .i64 1), (.int .i64 (2 + (19 : Int) % 20)), (.int .i64 (2 + b_ % 60))].toArray 31 (0, 0)), kU64.row m38 m39 q40, kStr.row m41 m42 q43, kInt.row m44 m45 q46] := hs84
   refine zD (hK79 _ _ ?_)
   refine W.sr fun K86 hK86 => ?_
   refine zE 1 (hK86 _ _ ?_)
   refine W.seq_join (fun s_ w_ => ∃ (p87 : Int), (∃ us, s_ = slots 288 [(1, (.slice sa ss.length sc)), (5, (.pointer (some ⟨b24, 0, none⟩))), (7, (.slice m41 q43.length m42)), (8, (.slice m44 n47 m45)), (9, (.int .i64 p48)), (10, (.pointer (some ⟨b63, 0, none⟩))), (11, (.pointer (some ⟨b75, 0, none⟩))), (12, (.int .i64 p87))] us) ∧ St B w [] w_ [blk b24 (.cells [(.int .i64 1), (.int .i64 (2 + (19 : Int) % 20)), (.int .i64 (2 + b_ % 60))].toArray 31 (0, 0)), kStr.row m41 m42 q43, kInt.row m44 m45 q46, viewA (ptr b63) q40 ([]), blk b75 (.cells [(.string ((ss.getD p48.toNat dSt15).c2)), (.int .i64 (1 + ((mx ((ss.getD p48.toNat dSt15).c3) 0).tmod ((2 + (19 : Int) % 20) - 1))))].toArray 33 (0, 0)), kU64.row m38 m39 q40] ∧ entrytable_J2 b_ ss k49 q40 q43 q46 n47 p48 p87 = some true) ?_ ?_
   ·
    rintro _ w88 ⟨p87, ⟨us, rfl⟩, hs89, hm⟩
    unfold entrytable_J2 at hm
    refine W.sr fun K90 hK90 => ?_
    refine zR 1 ?_
    refine zL ⟨b75, 0, none⟩ (.string ((ss.getD p48.toNat dSt15).c2)) (hs89.cellAt 4 rfl rfl) ?_
    obtain ⟨r91, h92, hm⟩ := bind_some hm
    refine zC00 hs89 (emay_walk (tx_ := (ss.getD p48.toNat dSt15).c2) (hm := h92) B _) fun w93 hs95 => ?_
    refine zE 1 (hK90 _ _ ?_)
    refine W.sr fun K96 hK96 => ?_
    refine zE 1 (hK96 _ _ ?_)
    refine W.seq_join (fun s_ w_ => ∃ (q99 : List ByteArray) (q102 : List Int) (n103 : Nat) (l104 : List (Int × Int)) (p105 : Int) (m97 : Option Addr) (m98 : Nat) (m100 : Option Addr) (m101 : Nat), (∃ us, s_ = slots 288 [(1, (.slice sa ss.length sc)), (5, (.pointer (some ⟨b24, 0, none⟩))), (7, (.slice m97 q99.length m98)), (8, (.slice m100 n103 m101)), (9, (.int .i64 p48)), (10, (.pointer (some ⟨b63, 0, none⟩))), (14, (.bool r91)), (15, (.int .i64 p105))] us) ∧ St B w [] w_ [blk b24 (.cells [(.int .i64 1), (.int .i64 (2 + (19 : Int) % 20)), (.int .i64 (2 + b_ % 60))].toArray 31 (0, 0)), kStr.row m97 m98 q99, kInt.row m100 m101 q102, viewA (ptr b63) q40 l104, blk b75 (.cells [(.string ((ss.getD p48.toNat dSt15).c2)), (.int .i64 (1 + ((mx ((ss.getD p48.toNat dSt15).c3) 0).tmod ((2 + (19 : Int) % 20) - 1))))].toArray 33 (0, 0)), kU64.row m38 m39 q40] ∧ entrytable_J3 b_ k49 q40 p48 r91 q99 q102 n103 l104 p105 = some true) ?_ ?_
    ·
     rintro _ w106 ⟨q99, q102, n103, l104, p105, m97, m98, m100, m101, ⟨us, rfl⟩, hs107, hm⟩
     unfold entrytable_J3 at hm
     refine W.seq_join (fun s_ w_ => (∃ us, s_ = slots 288 [(1, (.slice sa ss.length sc)), (5, (.pointer (some ⟨b24, 0, none⟩))), (7, (.slice m97 q99.length m98)), (8, (.slice m100 n103 m101)), (9, (.int .i64 p48)), (10, (.pointer (some ⟨b63, 0, none⟩)))] us) ∧ St B w [] w_ [blk b24 (.cells [(.int .i64 1), (.int .i64 (2 + (19 : Int) % 20)), (.int .i64 (2 + b_ % 60))].toArray 31 (0, 0)), kStr.row m97 m98 q99, kInt.row m100 m101 q102, viewA (ptr b63) q40 l104, blk b75 (.cells [(.string ((ss.getD p48.toNat dSt15).c2)), (.int .i64 (1 + ((mx ((ss.getD p48.toNat dSt15).c3) 0).tmod ((2 + (19 : Int) % 20) - 1))))].toArray 33 (0, 0)), kU64.row m38 m39 q40] ∧ entrytable_J4 b_ k49 q40 p48 q99 q102 n103 l104 = some true) ?_ ?_
     ·
      rintro _ w108 ⟨⟨us, rfl⟩, hs109, hm⟩
      unfold entrytable_J4 at hm
      refine W.sr fun K110 hK110 => ?_
      refine zR 1 ?_
      refine ops_R (runs_loadAgg (ad := ⟨b24, 0, none⟩) (cs := [(.int .i64 1), (.int .i64 (2 + (19 : Int) % 20)), (.int .i64 (2 + b_ % 60))]) (by kernel_rfl) (cells_sub (hs109.heapAt 0 rfl) rfl)) ?_
      obtain ⟨r111, h112, hm⟩ := bind_some hm
      have hs115 := St.f3 hs109
      refine ops_call1 hs115 (by kernel_rfl) (eList_walk (vb := b63) (gw := 1) (gi := (2 + (19 : Int) % 20)) (gb := (2 + b_ % 60)) (n_ := 1) (img := q40) (l := l104) (hm := h112) B _) ?_
      rintro _ _ w116 ⟨a113, c114, rfl, rfl⟩ hs117
      have hs118 := St.ap2 hs117
      refine zE 5 (hK110 _ _ ?_)
      refine W.seq fun K119 hK119 => ?_
      refine W.sr fun K120 hK120 => ?_
      refine zR 3 ?_
      rcases Bool.eq_false_or_eq_true (!decide (r111.2 = 0)) with h121 | h121
      rotate_left
      ·
       have h121p : r111.2 = 0 := of_decide_eq_true (bnot_false h121)
       replace hm := ite_yes hm h121p
       refine zS 237 h121 ?_
       refine zS 236 h121 ?_
       refine zE 6 (hK120 _ _ ?_)
       refine W.cond (!decide ((r111.1.length : Int) = (q99.length : Int))) (by kernel_rfl) (fun h122 => ?_) (fun h122 => ?_)
       rotate_left
       ·
        have h122p : (r111.1.length : Int) = (q99.length : Int) := of_decide_eq_true (bnot_false h122)
        replace hm := ite_yes hm h122p
        refine W.skip ?_
        refine hK119 _ _ ?_
        refine W.seq_join (fun s_ w_ => (∃ us, s_ = slots 288 [(1, (.slice sa ss.length sc)), (5, (.pointer (some ⟨b24, 0, none⟩))), (7, (.slice m97 q99.length m98)), (8, (.slice m100 n103 m101)), (9, (.int .i64 p48)), (10, (.pointer (some ⟨b63, 0, none⟩)))] us) ∧ St B w [] w_ [blk b24 (.cells [(.int .i64 1), (.int .i64 (2 + (19 : Int) % 20)), (.int .i64 (2 + b_ % 60))].toArray 31 (0, 0)), kStr.row m97 m98 q99, kInt.row m100 m101 q102, viewA (ptr b63) q40 l104, kEn.row a113 c114 r111.1, blk b75 (.cells [(.string ((ss.getD p48.toNat dSt15).c2)), (.int .i64 (1 + ((mx ((ss.getD p48.toNat dSt15).c3) 0).tmod ((2 + (19 : Int) % 20) - 1))))].toArray 33 (0, 0)), kU64.row m38 m39 q40] ∧ entrytable_J5 b_ k49 q40 p48 q99 q102 n103 l104 = some true) ?_ ?_
        ·
         rintro _ w123 ⟨⟨us, rfl⟩, hs124, hm⟩
         unfold entrytable_J5 at hm
         refine W.sr fun K125 hK125 => ?_
         refine zR 1 ?_
         refine ops_call0 hs124 (by kernel_rfl) (flat_spec (hv := (hs124.entAt 3 rfl viewA_at)) B _) ?_
         rintro _ _ w128 ⟨a126, c127, rfl, rfl⟩ hs129
         have hs130 := St.ap1 hs129
         refine zE 1 (hK125 _ _ ?_)
         refine W.sr fun K131 hK131 => ?_
         refine zR 2 ?_
         refine ops_R (runs_loadAgg (ad := ⟨b24, 0, none⟩) (cs := [(.int .i64 1), (.int .i64 (2 + (19 : Int) % 20)), (.int .i64 (2 + b_ % 60))]) (by kernel_rfl) (cells_sub (hs130.heapAt 1 rfl) rfl)) ?_
         obtain ⟨r132, h133, hm⟩ := bind_some hm
         replace h133 := some_inj h133
         refine ops_call0 hs130 (by kernel_rfl) (lwords_spec (gw := 1) (gi := (2 + (19 : Int) % 20)) (gb := (2 + b_ % 60)) B _) ?_
         rintro _ _ w134 ⟨hv136, hH137⟩ hs135
         rw [h133] at hv136
         try rw [h133] at hH137
         subst hv136 hH137
         have hs138 := St.ap0 hs135
         refine zE 1 (hK131 _ _ ?_)
         refine W.cond (!decide ((((vflat q40 l104).length) : Int) = r132)) (by kernel_rfl) (fun h139 => ?_) (fun h139 => ?_)
         rotate_left
         ·
          have h139p : (((vflat q40 l104).length) : Int) = r132 := of_decide_eq_true (bnot_false h139)
          replace hm := ite_yes hm h139p
          refine W.skip ?_
          refine normal_block ?_
          refine hK61 _ _ ?_
          refine W.region ?_
          refine zR 1 ?_
          obtain ⟨h140, hm⟩ := need_some hm
          refine zI _ (wrap_i64 h140.1 h140.2) ?_
          refine zE 1 ?_
          have hs141 := St.f3 hs138
          have hs142 := St.f3 hs141
          have hs143 := St.f2 hs142
          have hs144 := St.f3 hs143
          have hs145 := St.tk4 hs144
          refine loopAt_next ?_
          exact ih50 ((vflat q40 l104), q99, q102, n103, (p48 + 1), a126, c127, m97, m98, m100, m101) _ _ ⟨slots_intro _ (by kernel_rfl), hs145⟩ hm
         ·
          have h139p : ¬ ((((vflat q40 l104).length) : Int) = r132) := of_decide_eq_false (bnot_true h139)
          replace hm := ite_no hm h139p
          refine W.sr fun K146 hK146 => ?_
          refine zE 1 (hK146 _ _ ?_)
          refine W.ret (ret_block (ret_seq (ret_seq (ret_block (ret_seq ?_)))))
          have hs147 := St.tk0 hs138
          refine ret_of (.bool false) (by kernel_rfl) ⟨_, ⟨congrArg Value.bool (some_inj hm), rfl⟩, hs147⟩
        ·
         refine W.sr fun K148 hK148 => ?_
         refine zE 1 (hK148 _ _ ?_)
         refine W.block ?_
         have hs154 := St.f6 hs118
         have hs155 := St.f6 hs154
         have hs156 := St.f2 hs155
         have hs157 := St.f3 hs156
         have hs158 := St.f6 hs157
         have hs159 := St.f6 hs158
         have hs160 := St.f6 hs159
         refine W.loop_iter (G := Int) (σ := Int) (fun | p149 => p149) (fun | p149, s_, w_ => (∃ us, s_ = slots 288 [(1, (.slice sa ss.length sc)), (5, (.pointer (some ⟨b24, 0, none⟩))), (7, (.slice m97 q99.length m98)), (8, (.slice m100 n103 m101)), (9, (.int .i64 p48)), (10, (.pointer (some ⟨b63, 0, none⟩))), (21, (.int .i64 p149))] us) ∧ St B w [] w_ [blk b24 (.cells [(.int .i64 1), (.int .i64 (2 + (19 : Int) % 20)), (.int .i64 (2 + b_ % 60))].toArray 31 (0, 0)), kStr.row m97 m98 q99, kInt.row m100 m101 q102, viewA (ptr b63) q40 l104, kEn.row a113 c114 r111.1, blk b75 (.cells [(.string ((ss.getD p48.toNat dSt15).c2)), (.int .i64 (1 + ((mx ((ss.getD p48.toNat dSt15).c3) 0).tmod ((2 + (19 : Int) % 20) - 1))))].toArray 33 (0, 0)), kU64.row m38 m39 q40]) 0 ⟨slots_intro _ (by kernel_rfl), hs160⟩ hm ?_
         rintro k150 ih151 p149 _ w152 ⟨⟨us, rfl⟩, hs153⟩ hm
         replace hm : entrytable_B2 b_ k49 q40 p48 q99 q102 n103 l104 k150 p149 = some true := hm
         unfold entrytable_B2 at hm
         refine W.seq fun K161 hK161 => ?_
         refine W.sr fun K162 hK162 => ?_
         refine zE 4 (hK162 _ _ ?_)
         refine W.cond (decide (p149 < (q99.length : Int))) (by kernel_rfl) (fun h163 => ?_) (fun h163 => ?_)
         ·
          obtain ⟨h163p, hm⟩ := iY hm h163
          refine W.skip ?_
          refine hK161 _ _ ?_
          refine W.seq fun K164 hK164 => ?_
          refine W.block ?_
          refine W.seq_join (fun s_ w_ => ∃ (p166 : ByteArray) (p167 : Int) (p168 : Int) (p169 : Int) (m165 : Nat), (∃ us, s_ = slots 288 [(1, (.slice sa ss.length sc)), (5, (.pointer (some ⟨b24, 0, none⟩))), (7, (.slice m97 q99.length m98)), (8, (.slice m100 n103 m101)), (9, (.int .i64 p48)), (10, (.pointer (some ⟨b63, 0, none⟩))), (21, (.int .i64 p149)), (22, (.pointer (some ⟨m165, 0, none⟩))), (23, (.int .i64 p168)), (24, (.int .i64 p169))] us) ∧ St B w [] w_ [blk b24 (.cells [(.int .i64 1), (.int .i64 (2 + (19 : Int) % 20)), (.int .i64 (2 + b_ % 60))].toArray 31 (0, 0)), kStr.row m97 m98 q99, kInt.row m100 m101 q102, viewA (ptr b63) q40 l104, blk m165 (.cells [(.string p166), (.int .i64 p167)].toArray 33 (0, 0)), kEn.row a113 c114 r111.1, blk b75 (.cells [(.string ((ss.getD p48.toNat dSt15).c2)), (.int .i64 (1 + ((mx ((ss.getD p48.toNat dSt15).c3) 0).tmod ((2 + (19 : Int) % 20) - 1))))].toArray 33 (0, 0)), kU64.row m38 m39 q40] ∧ entrytable_J7 q102 n103 k150 p149 p166 p167 p168 p169 = some true) ?_ ?_
          ·
           rintro _ w170 ⟨p166, p167, p168, p169, m165, ⟨us, rfl⟩, hs171, hm⟩
           unfold entrytable_J7 at hm
           refine W.seq fun K172 hK172 => ?_
           have hs173 := hs171.drew
           refine W.regionD [(0, 0), (1, 1), (2, 2), (4, 4), (12, 12), (4, 4), (4, 4), (100, 100), (132, 132), (276, 276), (516, 516), (1028, 1024), (2048, 2048), (6144, 6144), (10240, 10240), (18432, 16384), (32768, 32768), (98304, 98304), (163840, 163840)] (fun w_ => St B w [] w_ [blk b24 (.cells [(.int .i64 1), (.int .i64 (2 + (19 : Int) % 20)), (.int .i64 (2 + b_ % 60))].toArray 31 (0, 0)), kStr.row m97 m98 q99, kInt.row m100 m101 q102, viewA (ptr b63) q40 l104, blk m165 (.cells [(.string p166), (.int .i64 p167)].toArray 33 (0, 0)), kEn.row a113 c114 r111.1, blk b75 (.cells [(.string ((ss.getD p48.toNat dSt15).c2)), (.int .i64 (1 + ((mx ((ss.getD p48.toNat dSt15).c3) 0).tmod ((2 + (19 : Int) % 20) - 1))))].toArray 33 (0, 0)), kU64.row m38 m39 q40]) (by kernel_rfl) hs173 ?_
           refine any_val (v := (.int .i64 p169)) (v' := (.int .i64 p169)) 0 (by kernel_rfl) (fun _ => by kernel_rfl) rfl hs173 ?_
           refine any_val (v := (.bool (!decide (p169 = 0)))) (v' := (.bool (!decide (p169 = 0)))) 1 (by kernel_rfl) (fun _ => by kernel_rfl) rfl hs173 ?_
           refine any_val (v := (.bool (!decide (p169 = 0)))) (v' := (.bool (!decide (p169 = 0)))) 2 (by kernel_rfl) (fun _ => by kernel_rfl) rfl hs173 ?_
           rcases Bool.eq_false_or_eq_true (!decide (p169 = 0)) with h174 | h174
           rotate_left
           ·
            have h174p : p169 = 0 := of_decide_eq_true (bnot_false h174)
            replace hm := ite_yes hm h174p
            refine any_set 262 (v := .bool false) (eq_bool_of (by kernel_rfl) h174) ?_
            refine any_set 263 (v := .bool false) (eq_bool_of (by kernel_rfl) h174) ?_
            refine any_val (v := (.pointer (some ⟨m165, 1, none⟩))) (v' := (.pointer (some ⟨m165, 1, none⟩))) 3 (by kernel_rfl) (fun _ => by kernel_rfl) rfl hs173 ?_
            refine any_R 4 (by kernel_rfl) (fun _ hS_ => runs_load (ad := ⟨m165, 1, none⟩) (v := (.int .i64 p167)) (by kernel_rfl) (hS_.cellAt 4 rfl rfl)) hs173 ?_
            refine any_val (v := (.slice m100 n103 m101)) (v' := (.slice m100 n103 m101)) 5 (by kernel_rfl) (fun _ => by kernel_rfl) rfl hs173 ?_
            refine any_val (v := (.int .i64 p149)) (v' := (.int .i64 p149)) 6 (by kernel_rfl) (fun _ => by kernel_rfl) rfl hs173 ?_
            obtain ⟨h176, hm⟩ := need_some hm
            have hk175 := lt_toNat h176
            obtain ⟨h178, hm⟩ := need_some hm
            have hk177 := h178
            refine any_R 7 (by kernel_rfl) (fun _ hS_ => runs_index (a := m100) (n := n103) (z := p149) (size := 1) p149.toNat (nat_of h176.1) hk175 (kInt.addr (St.kcells kInt hs173 2 rfl) hk177) (by kernel_rfl)) hs173 ?_
            refine any_R 8 (by kernel_rfl) (fun _ hS_ => runs_load (ad := ((adr m100 (p149.toNat * 1)).add 0)) (v := (.int .i64 (q102.getD p149.toNat 0))) (by kernel_rfl) (kInt.at (St.kcells kInt hS_ 2 rfl) hk177 0 0 rfl)) hs173 ?_
            refine any_val (v := (.bool (!decide (p167 = (q102.getD p149.toNat 0))))) (v' := (.bool (!decide (p167 = (q102.getD p149.toNat 0))))) 9 (by kernel_rfl) (fun _ => by kernel_rfl) rfl hs173 ?_
            refine any_val (v := (.bool (!decide (p167 = (q102.getD p149.toNat 0))))) (v' := (.bool (!decide (p167 = (q102.getD p149.toNat 0))))) 10 (by kernel_rfl) (fun _ => by kernel_rfl) rfl hs173 ?_
            refine any_val (v := (.bool (!decide (p167 = (q102.getD p149.toNat 0))))) (v' := (.bool (!decide (p167 = (q102.getD p149.toNat 0))))) 11 (by kernel_rfl) (fun _ => by kernel_rfl) rfl hs173 ?_
            rcases Bool.eq_false_or_eq_true (!decide (p167 = (q102.getD p149.toNat 0))) with h179 | h179
            rotate_left
            ·
             have h179p : p167 = (q102.getD p149.toNat 0) := of_decide_eq_true (bnot_false h179)
             replace hm := ite_yes hm h179p
             refine any_set 270 (v := .bool false) (eq_bool_of (by kernel_rfl) h179) ?_
             refine any_set 271 (v := .bool false) (eq_bool_of (by kernel_rfl) h179) ?_
             refine any_set 272 (v := .bool false) (eq_bool_of (by kernel_rfl) h179) ?_
             refine any_val (v := (.int .i64 p168)) (v' := (.int .i64 p168)) 12 (by kernel_rfl) (fun _ => by kernel_rfl) rfl hs173 ?_
             refine any_val (v := (.bool (decide (p168 < 0)))) (v' := (.bool (decide (p168 < 0)))) 13 (by kernel_rfl) (fun _ => by kernel_rfl) rfl hs173 ?_
             refine any_val (v := (.bool (decide (p168 < 0)))) (v' := (.bool (decide (p168 < 0)))) 14 (by kernel_rfl) (fun _ => by kernel_rfl) rfl hs173 ?_
             refine any_val (v := (.bool (decide (p168 < 0)))) (v' := (.bool (decide (p168 < 0)))) 15 (by kernel_rfl) (fun _ => by kernel_rfl) rfl hs173 ?_
             rcases Bool.eq_false_or_eq_true (decide (p168 < 0)) with h180 | h180
             ·
              obtain ⟨h180p, hm⟩ := iY hm h180
              refine any_set 274 (v := .bool true) (eq_bool_of (by kernel_rfl) h180) ?_
              refine any_set 275 (v := .bool true) (eq_bool_of (by kernel_rfl) h180) ?_
              refine any_set 276 (v := .bool true) (eq_bool_of (by kernel_rfl) h180) ?_
              refine any_skip 16 (by kernel_rfl) (by kernel_rfl) hs173 ?_
              refine any_skip 17 (by kernel_rfl) (by kernel_rfl) hs173 ?_
              refine any_val (v := (.bool true)) (v' := (.bool true)) 18 (by kernel_rfl) (fun _ => by kernel_rfl) rfl hs173 ?_
              refine any_done (by kernel_rfl) ?_
              refine hK172 _ _ ?_
              refine W.cond_true true (by kernel_rfl) rfl ?_
              refine W.sr fun K181 hK181 => ?_
              refine zE 1 (hK181 _ _ ?_)
              refine W.ret (ret_block (ret_seq (ret_seq (ret_block (ret_seq (ret_block (ret_seq (ret_seq (ret_block (ret_seq ?_))))))))))
              have hs182 := St.tk0 hs173
              refine ret_of (.bool false) (by kernel_rfl) ⟨_, ⟨congrArg Value.bool (some_inj hm), rfl⟩, hs182⟩
             ·
              obtain ⟨h180p, hm⟩ := iN hm h180
              refine any_set 274 (v := .bool false) (eq_bool_of (by kernel_rfl) h180) ?_
              refine any_set 275 (v := .bool false) (eq_bool_of (by kernel_rfl) h180) ?_
              refine any_set 276 (v := .bool false) (eq_bool_of (by kernel_rfl) h180) ?_
              refine any_val (v := (.int .i64 p168)) (v' := (.int .i64 p168)) 16 (by kernel_rfl) (fun _ => by kernel_rfl) rfl hs173 ?_
              refine any_val (v := (.bool (decide (p168 ≥ 12)))) (v' := (.bool (decide (p168 ≥ 12)))) 17 (by kernel_rfl) (fun _ => by kernel_rfl) rfl hs173 ?_
              refine any_val (v := (.bool (decide (p168 ≥ 12)))) (v' := (.bool (decide (p168 ≥ 12)))) 18 (by kernel_rfl) (fun _ => by kernel_rfl) rfl hs173 ?_
              refine any_done (by kernel_rfl) ?_
              refine hK172 _ _ ?_
              refine W.cond (decide (p168 ≥ 12)) (by kernel_rfl) (fun h183 => ?_) (fun h183 => ?_)
              ·
               obtain ⟨h183p, hm⟩ := iY hm h183
               refine W.sr fun K184 hK184 => ?_
               refine zE 1 (hK184 _ _ ?_)
               refine W.ret (ret_block (ret_seq (ret_seq (ret_block (ret_seq (ret_block (ret_seq (ret_seq (ret_block (ret_seq ?_))))))))))
               have hs185 := St.tk0 hs173
               refine ret_of (.bool false) (by kernel_rfl) ⟨_, ⟨congrArg Value.bool (some_inj hm), rfl⟩, hs185⟩
              ·
               obtain ⟨h183p, hm⟩ := iN hm h183
               refine W.skip ?_
               refine normal_block ?_
               refine hK164 _ _ ?_
               refine W.region ?_
               refine zR 1 ?_
               obtain ⟨h186, hm⟩ := need_some hm
               refine zI _ (wrap_i64 h186.1 h186.2) ?_
               refine zE 1 ?_
               have hs187 := St.f7 hs173
               have hs188 := St.f7 hs187
               have hs189 := St.f7 hs188
               have hs190 := St.f6 hs189
               have hs191 := St.f6 hs190
               have hs192 := St.f6 hs191
               have hs193 := St.f6 hs192
               have hs194 := St.tk7 hs193
               refine loopAt_next ?_
               exact ih151 (p149 + 1) _ _ ⟨slots_intro _ (by kernel_rfl), hs194⟩ hm
            ·
             have h179p : ¬ (p167 = (q102.getD p149.toNat 0)) := of_decide_eq_false (bnot_true h179)
             replace hm := ite_no hm h179p
             refine any_set 270 (v := .bool true) (eq_bool_of (by kernel_rfl) h179) ?_
             refine any_set 271 (v := .bool true) (eq_bool_of (by kernel_rfl) h179) ?_
             refine any_set 272 (v := .bool true) (eq_bool_of (by kernel_rfl) h179) ?_
             refine any_skip 12 (by kernel_rfl) (by kernel_rfl) hs173 ?_
             refine any_skip 13 (by kernel_rfl) (by kernel_rfl) hs173 ?_
             refine any_val (v := (.bool true)) (v' := (.bool true)) 14 (by kernel_rfl) (fun _ => by kernel_rfl) rfl hs173 ?_
             refine any_val (v := (.bool true)) (v' := (.bool true)) 15 (by kernel_rfl) (fun _ => by kernel_rfl) rfl hs173 ?_
             refine any_skip 16 (by kernel_rfl) (by kernel_rfl) hs173 ?_
             refine any_skip 17 (by kernel_rfl) (by kernel_rfl) hs173 ?_
             refine any_val (v := (.bool true)) (v' := (.bool true)) 18 (by kernel_rfl) (fun _ => by kernel_rfl) rfl hs173 ?_
             refine any_done (by kernel_rfl) ?_
             refine hK172 _ _ ?_
             refine W.cond_true true (by kernel_rfl) rfl ?_
             refine W.sr fun K195 hK195 => ?_
             refine zE 1 (hK195 _ _ ?_)
             refine W.ret (ret_block (ret_seq (ret_seq (ret_block (ret_seq (ret_block (ret_seq (ret_seq (ret_block (ret_seq ?_))))))))))
             have hs196 := St.tk0 hs173
             refine ret_of (.bool false) (by kernel_rfl) ⟨_, ⟨congrArg Value.bool (some_inj hm), rfl⟩, hs196⟩
           ·
            have h174p : ¬ (p169 = 0) := of_decide_eq_false (bnot_true h174)
            replace hm := ite_no hm h174p
            refine any_set 262 (v := .bool true) (eq_bool_of (by kernel_rfl) h174) ?_
            refine any_set 263 (v := .bool true) (eq_bool_of (by kernel_rfl) h174) ?_
            refine any_skip 3 (by kernel_rfl) (by kernel_rfl) hs173 ?_
            refine any_skip 4 (by kernel_rfl) (by kernel_rfl) hs173 ?_
            refine any_skip 5 (by kernel_rfl) (by kernel_rfl) hs173 ?_
            refine any_skip 6 (by kernel_rfl) (by kernel_rfl) hs173 ?_
            refine any_skip 7 (by kernel_rfl) (by kernel_rfl) hs173 ?_
            refine any_skip 8 (by kernel_rfl) (by kernel_rfl) hs173 ?_
            refine any_skip 9 (by kernel_rfl) (by kernel_rfl) hs173 ?_
            refine any_val (v := (.bool true)) (v' := (.bool true)) 10 (by kernel_rfl) (fun _ => by kernel_rfl) rfl hs173 ?_
            refine any_val (v := (.bool true)) (v' := (.bool true)) 11 (by kernel_rfl) (fun _ => by kernel_rfl) rfl hs173 ?_
            refine any_skip 12 (by kernel_rfl) (by kernel_rfl) hs173 ?_
            refine any_skip 13 (by kernel_rfl) (by kernel_rfl) hs173 ?_
            refine any_val (v := (.bool true)) (v' := (.bool true)) 14 (by kernel_rfl) (fun _ => by kernel_rfl) rfl hs173 ?_
            refine any_val (v := (.bool true)) (v' := (.bool true)) 15 (by kernel_rfl) (fun _ => by kernel_rfl) rfl hs173 ?_
            refine any_skip 16 (by kernel_rfl) (by kernel_rfl) hs173 ?_
            refine any_skip 17 (by kernel_rfl) (by kernel_rfl) hs173 ?_
            refine any_val (v := (.bool true)) (v' := (.bool true)) 18 (by kernel_rfl) (fun _ => by kernel_rfl) rfl hs173 ?_
            refine any_done (by kernel_rfl) ?_
            refine hK172 _ _ ?_
            refine W.cond_true true (by kernel_rfl) rfl ?_
            refine W.sr fun K197 hK197 => ?_
            refine zE 1 (hK197 _ _ ?_)
            refine W.ret (ret_block (ret_seq (ret_seq (ret_block (ret_seq (ret_block (ret_seq (ret_seq (ret_block (ret_seq ?_))))))))))
            have hs198 := St.tk0 hs173
            refine ret_of (.bool false) (by kernel_rfl) ⟨_, ⟨congrArg Value.bool (some_inj hm), rfl⟩, hs198⟩
          ·
           have hs199 := hs153.drew
           refine W.regionD [(0, 0), (0, 0), (0, 0), (0, 0), (12, 12), (16, 16), (35, 35), (64, 64), (128, 128), (128, 128), (128, 128), (0, 0), (2559, 2304), (7167, 512), (16383, 1024)] (fun w_ => St B w [] w_ [blk b24 (.cells [(.int .i64 1), (.int .i64 (2 + (19 : Int) % 20)), (.int .i64 (2 + b_ % 60))].toArray 31 (0, 0)), kStr.row m97 m98 q99, kInt.row m100 m101 q102, viewA (ptr b63) q40 l104, kEn.row a113 c114 r111.1, blk b75 (.cells [(.string ((ss.getD p48.toNat dSt15).c2)), (.int .i64 (1 + ((mx ((ss.getD p48.toNat dSt15).c3) 0).tmod ((2 + (19 : Int) % 20) - 1))))].toArray 33 (0, 0)), kU64.row m38 m39 q40]) (by kernel_rfl) hs199 ?_
           refine any_val (v := (.pointer (some ⟨b63, 0, none⟩))) (v' := (.pointer (some ⟨b63, 0, none⟩))) 0 (by kernel_rfl) (fun _ => by kernel_rfl) rfl hs199 ?_
           refine any_R 1 (by kernel_rfl) (fun _ hS_ => runs_loadAgg (ad := ⟨b24, 0, none⟩) (cs := [(.int .i64 1), (.int .i64 (2 + (19 : Int) % 20)), (.int .i64 (2 + b_ % 60))]) (by kernel_rfl) (cells_sub (hS_.heapAt 0 rfl) rfl)) hs199 ?_
           refine any_val (v := (.slice m97 q99.length m98)) (v' := (.slice m97 q99.length m98)) 2 (by kernel_rfl) (fun _ => by kernel_rfl) rfl hs199 ?_
           refine any_val (v := (.int .i64 p149)) (v' := (.int .i64 p149)) 3 (by kernel_rfl) (fun _ => by kernel_rfl) rfl hs199 ?_
           obtain ⟨h201, hm⟩ := need_some hm
           have hk200 := lt_toNat h201
           refine any_R 4 (by kernel_rfl) (fun _ hS_ => runs_index (a := m97) (n := q99.length) (z := p149) (size := 1) p149.toNat (nat_of h201.1) hk200 (kStr.addr (St.kcells kStr hs199 1 rfl) hk200) (by kernel_rfl)) hs199 ?_
           refine any_R 5 (by kernel_rfl) (fun _ hS_ => runs_load (ad := ((adr m97 (p149.toNat * 1)).add 0)) (v := (.string (q99.getD p149.toNat ByteArray.empty))) (by kernel_rfl) (kStr.at (St.kcells kStr hS_ 1 rfl) hk200 ByteArray.empty 0 rfl)) hs199 ?_
           refine any_step2 6 11 (by kernel_rfl) (by kernel_rfl) (by kernel_rfl) ?_ ?_
           ·
            obtain ⟨r202, h203, hm⟩ := bind_some hm
            have hs204 := St.f3 hs199
            refine zC11 hs204 (eFind_walk (vb := b63) (gw := 1) (gi := (2 + (19 : Int) % 20)) (gb := (2 + b_ % 60)) (n_ := 1) (tx_ := (q99.getD p149.toNat ByteArray.empty)) (img := q40) (l := l104) (hm := h203) B _) fun w205 hs207 => ?_
            have hs208 := St.f6 hs207
            have hs209 := St.f6 hs208
            have hs210 := St.f6 hs209
            have hs211 := St.f3 hs210
            have hs212 := St.f6 hs211
            have hs213 := St.f6 hs212
            have hs214 := St.f6 hs213
            refine ops_done (by kernel_rfl) ⟨hs214, ?_⟩
            refine any_val (v := (.tuple #[(.agg #[(.string r202.1), (.int .i64 r202.2.1)]), (.int .i64 r202.2.2.1), (.int .i64 r202.2.2.2)])) (v' := (.tuple #[(.agg #[(.string r202.1), (.int .i64 r202.2.1)]), (.int .i64 r202.2.2.1), (.int .i64 r202.2.2.2)])) 7 (by kernel_rfl) (fun _ => by kernel_rfl) rfl hs214 ?_
            refine any_val (v := (.agg #[(.string r202.1), (.int .i64 r202.2.1)])) (v' := (.agg #[(.string r202.1), (.int .i64 r202.2.1)])) 8 (by kernel_rfl) (fun _ => by kernel_rfl) rfl hs214 ?_
            refine any_val (v := (.int .i64 r202.2.2.1)) (v' := (.int .i64 r202.2.2.1)) 9 (by kernel_rfl) (fun _ => by kernel_rfl) rfl hs214 ?_
            refine any_val (v := (.int .i64 r202.2.2.2)) (v' := (.int .i64 r202.2.2.2)) 10 (by kernel_rfl) (fun _ => by kernel_rfl) rfl hs214 ?_
            refine any_step 11 (by kernel_rfl) (by kernel_rfl) ?_
            refine zN [(.string ByteArray.empty), (.int .i64 0)] 33 hs207 fun b217 w215 hs216 => ?_
            have hs218 := St.f7 hs216
            have hs219 := St.f7 hs218
            have hs220 := St.f7 hs219
            have hs221 := St.f4 hs220
            have hs222 := St.f7 hs221
            have hs223 := St.f7 hs222
            have hs224 := St.f7 hs223
            have hs225 := St.tk7 hs224
            refine ops_done (by kernel_rfl) ⟨hs225, ?_⟩
            refine any_step 12 (by kernel_rfl) (by kernel_rfl) ?_
            refine ops_store (off := 0) (cs := [(.string ByteArray.empty), (.int .i64 0)]) (vs := [(.string r202.1), (.int .i64 r202.2.1)]) hs216 (by kernel_rfl) (by simp) rfl (fun w226 hs227 => ?_)
            have hs228 : St B w [] w226 [blk b217 (.cells [(.string r202.1), (.int .i64 r202.2.1)].toArray 33 (0, 0)), viewA (ptr b63) q40 l104, blk b24 (.cells [(.int .i64 1), (.int .i64 (2 + (19 : Int) % 20)), (.int .i64 (2 + b_ % 60))].toArray 31 (0, 0)), kStr.row m97 m98 q99, kInt.row m100 m101 q102, kEn.row a113 c114 r111.1, blk b75 (.cells [(.string ((ss.getD p48.toNat dSt15).c2)), (.int .i64 (1 + ((mx ((ss.getD p48.toNat dSt15).c3) 0).tmod ((2 + (19 : Int) % 20) - 1))))].toArray 33 (0, 0)), kU64.row m38 m39 q40] := hs227
            have hs229 := St.f7 hs228
            have hs230 := St.f7 hs229
            have hs231 := St.f7 hs230
            have hs232 := St.f4 hs231
            have hs233 := St.f7 hs232
            have hs234 := St.f7 hs233
            have hs235 := St.f7 hs234
            have hs236 := St.tk7 hs235
            refine ops_done (by kernel_rfl) ⟨hs236, ?_⟩
            refine any_val (v := (.int .i64 r202.2.2.1)) (v' := (.int .i64 r202.2.2.1)) 13 (by kernel_rfl) (fun _ => by kernel_rfl) rfl hs236 ?_
            refine any_val (v := (.int .i64 r202.2.2.2)) (v' := (.int .i64 r202.2.2.2)) 14 (by kernel_rfl) (fun _ => by kernel_rfl) rfl hs236 ?_
            refine any_done (by kernel_rfl) ?_
            have hs237 := St.f7 hs228
            have hs238 := St.f7 hs237
            have hs239 := St.f7 hs238
            have hs240 := St.f3 hs239
            have hs241 := St.f4 hs240
            have hs242 := St.f7 hs241
            have hs243 := St.f7 hs242
            have hs244 := St.f7 hs243
            exact ⟨r202.1, r202.2.1, r202.2.2.1, r202.2.2.2, b217, slots_intro _ (by kernel_rfl), hs244, hm⟩
           ·
            refine zN [(.string ByteArray.empty), (.int .i64 0)] 33 hs199 fun b247 w245 hs246 => ?_
            have hs248 := St.f7 hs246
            have hs249 := St.f7 hs248
            have hs250 := St.f7 hs249
            have hs251 := St.f7 hs250
            have hs252 := St.f7 hs251
            have hs253 := St.f7 hs252
            have hs254 := St.f7 hs253
            have hs255 := St.tk7 hs254
            refine ops_done (by kernel_rfl) ⟨hs255, ?_⟩
            refine any_step 6 (by kernel_rfl) (by kernel_rfl) ?_
            obtain ⟨r256, h257, hm⟩ := bind_some hm
            have hs258 := St.f4 hs246
            refine zC11 hs258 (eFind_walk (vb := b63) (gw := 1) (gi := (2 + (19 : Int) % 20)) (gb := (2 + b_ % 60)) (n_ := 1) (tx_ := (q99.getD p149.toNat ByteArray.empty)) (img := q40) (l := l104) (hm := h257) B _) fun w259 hs261 => ?_
            have hs262 := St.f7 hs261
            have hs263 := St.f7 hs262
            have hs264 := St.f7 hs263
            have hs265 := St.f3 hs264
            have hs266 := St.f7 hs265
            have hs267 := St.f7 hs266
            have hs268 := St.f7 hs267
            have hs269 := St.tk7 hs268
            refine ops_done (by kernel_rfl) ⟨hs269, ?_⟩
            refine any_val (v := (.tuple #[(.agg #[(.string r256.1), (.int .i64 r256.2.1)]), (.int .i64 r256.2.2.1), (.int .i64 r256.2.2.2)])) (v' := (.tuple #[(.agg #[(.string r256.1), (.int .i64 r256.2.1)]), (.int .i64 r256.2.2.1), (.int .i64 r256.2.2.2)])) 7 (by kernel_rfl) (fun _ => by kernel_rfl) rfl hs269 ?_
            refine any_val (v := (.agg #[(.string r256.1), (.int .i64 r256.2.1)])) (v' := (.agg #[(.string r256.1), (.int .i64 r256.2.1)])) 8 (by kernel_rfl) (fun _ => by kernel_rfl) rfl hs269 ?_
            refine any_val (v := (.int .i64 r256.2.2.1)) (v' := (.int .i64 r256.2.2.1)) 9 (by kernel_rfl) (fun _ => by kernel_rfl) rfl hs269 ?_
            refine any_val (v := (.int .i64 r256.2.2.2)) (v' := (.int .i64 r256.2.2.2)) 10 (by kernel_rfl) (fun _ => by kernel_rfl) rfl hs269 ?_
            refine any_step 12 (by kernel_rfl) (by kernel_rfl) ?_
            have hs272 := St.f1 hs261
            refine ops_store (off := 0) (cs := [(.string ByteArray.empty), (.int .i64 0)]) (vs := [(.string r256.1), (.int .i64 r256.2.1)]) hs272 (by kernel_rfl) (by simp) rfl (fun w270 hs271 => ?_)
            have hs273 : St B w [] w270 [blk b247 (.cells [(.string r256.1), (.int .i64 r256.2.1)].toArray 33 (0, 0)), viewA (ptr b63) q40 l104, blk b24 (.cells [(.int .i64 1), (.int .i64 (2 + (19 : Int) % 20)), (.int .i64 (2 + b_ % 60))].toArray 31 (0, 0)), kStr.row m97 m98 q99, kInt.row m100 m101 q102, kEn.row a113 c114 r111.1, blk b75 (.cells [(.string ((ss.getD p48.toNat dSt15).c2)), (.int .i64 (1 + ((mx ((ss.getD p48.toNat dSt15).c3) 0).tmod ((2 + (19 : Int) % 20) - 1))))].toArray 33 (0, 0)), kU64.row m38 m39 q40] := hs271
            have hs274 := St.f7 hs273
            have hs275 := St.f7 hs274
            have hs276 := St.f7 hs275
            have hs277 := St.f4 hs276
            have hs278 := St.f7 hs277
            have hs279 := St.f7 hs278
            have hs280 := St.f7 hs279
            have hs281 := St.tk7 hs280
            refine ops_done (by kernel_rfl) ⟨hs281, ?_⟩
            refine any_val (v := (.int .i64 r256.2.2.1)) (v' := (.int .i64 r256.2.2.1)) 13 (by kernel_rfl) (fun _ => by kernel_rfl) rfl hs281 ?_
            refine any_val (v := (.int .i64 r256.2.2.2)) (v' := (.int .i64 r256.2.2.2)) 14 (by kernel_rfl) (fun _ => by kernel_rfl) rfl hs281 ?_
            refine any_done (by kernel_rfl) ?_
            have hs282 := St.f7 hs273
            have hs283 := St.f7 hs282
            have hs284 := St.f7 hs283
            have hs285 := St.f3 hs284
            have hs286 := St.f4 hs285
            have hs287 := St.f7 hs286
            have hs288 := St.f7 hs287
            have hs289 := St.f7 hs288
            exact ⟨r256.1, r256.2.1, r256.2.2.1, r256.2.2.2, b247, slots_intro _ (by kernel_rfl), hs289, hm⟩
         ·
          obtain ⟨h163p, hm⟩ := iN hm h163
          refine W.exit (exit_seq (exit_seq (exit_here ?_)))
          exact ⟨slots_intro _ (by kernel_rfl), hs153, hm⟩
       ·
        have h122p : ¬ ((r111.1.length : Int) = (q99.length : Int)) := of_decide_eq_false (bnot_true h122)
        replace hm := ite_no hm h122p
        refine W.sr fun K290 hK290 => ?_
        refine zE 1 (hK290 _ _ ?_)
        refine W.ret (ret_seq (ret_block (ret_seq (ret_seq (ret_block (ret_seq ?_))))))
        have hs291 := St.tk0 hs118
        refine ret_of (.bool false) (by kernel_rfl) ⟨_, ⟨congrArg Value.bool (some_inj hm), rfl⟩, hs291⟩
      ·
       have h121p : ¬ (r111.2 = 0) := of_decide_eq_false (bnot_true h121)
       replace hm := ite_no hm h121p
       refine zS 237 h121 ?_
       refine zS 236 h121 ?_
       refine zE 6 (hK120 _ _ ?_)
       refine W.cond_true true (by kernel_rfl) rfl ?_
       refine W.sr fun K292 hK292 => ?_
       refine zE 1 (hK292 _ _ ?_)
       refine W.ret (ret_seq (ret_block (ret_seq (ret_seq (ret_block (ret_seq ?_))))))
       have hs293 := St.tk0 hs118
       refine ret_of (.bool false) (by kernel_rfl) ⟨_, ⟨congrArg Value.bool (some_inj hm), rfl⟩, hs293⟩
     ·
      refine W.sr fun K294 hK294 => ?_
      refine zR 3 ?_
      rcases Bool.eq_false_or_eq_true (!decide (p105 = 0)) with h295 | h295
      rotate_left
      ·
       have h295p : p105 = 0 := of_decide_eq_true (bnot_false h295)
       replace hm := ite_yes hm h295p
       refine zS 216 h295 ?_
       refine zS 215 h295 ?_
       refine zE 12 (hK294 _ _ ?_)
       refine W.cond_false false (by kernel_rfl) rfl ?_
       refine W.skip ?_
       exact ⟨slots_intro _ (by kernel_rfl), hs107, hm⟩
      ·
       have h295p : ¬ (p105 = 0) := of_decide_eq_false (bnot_true h295)
       replace hm := ite_no hm h295p
       refine zS 216 h295 ?_
       refine zS 215 h295 ?_
       refine zR 1 ?_
       refine ops_call0 hs107 (by kernel_rfl) (writes_spec (hv := (hs107.entAt 3 rfl viewA_at)) B _) ?_
       rintro _ _ w298 ⟨a296, c297, rfl, rfl⟩ hs299
       have hs300 := St.ap1 hs299
       refine zR 3 ?_
       rcases Bool.eq_false_or_eq_true (decide ((l104.length : Int) > 0)) with h301 | h301
       ·
        obtain ⟨h301p, hm⟩ := iY hm h301
        refine zS 221 h301 ?_
        refine zS 220 h301 ?_
        refine zE 7 (hK294 _ _ ?_)
        refine W.cond_true true (by kernel_rfl) rfl ?_
        refine W.sr fun K302 hK302 => ?_
        refine zE 1 (hK302 _ _ ?_)
        refine W.ret (ret_seq (ret_block (ret_seq (ret_seq (ret_block (ret_seq ?_))))))
        have hs303 := St.tk0 hs300
        refine ret_of (.bool false) (by kernel_rfl) ⟨_, ⟨congrArg Value.bool (some_inj hm), rfl⟩, hs303⟩
       ·
        obtain ⟨h301p, hm⟩ := iN hm h301
        refine zS 221 h301 ?_
        refine zS 220 h301 ?_
        refine zE 7 (hK294 _ _ ?_)
        refine W.cond (!((decide (p105 = 13)) == (!r91))) (by kernel_rfl) (fun h304 => ?_) (fun h304 => ?_)
        rotate_left
        ·
         have h304p : ((p105 = 13) ↔ (¬ (r91 = true))) := beq_yes decide_eq_true_iff (not_iff_of Iff.rfl) (bnot_false h304)
         replace hm := ite_yes hm h304p
         refine W.skip ?_
         have hs305 := St.f6 hs300
         have hs306 := St.f6 hs305
         have hs307 := St.f6 hs306
         have hs308 := St.f6 hs307
         have hs309 := St.f6 hs308
         have hs310 := St.f6 hs309
         have hs311 := St.tk6 hs310
         exact ⟨slots_intro _ (by kernel_rfl), hs311, hm⟩
        ·
         have h304p : ¬ ((p105 = 13) ↔ (¬ (r91 = true))) := beq_no decide_eq_true_iff (not_iff_of Iff.rfl) (bnot_true h304)
         replace hm := ite_no hm h304p
         refine W.sr fun K312 hK312 => ?_
         refine zE 1 (hK312 _ _ ?_)
         refine W.ret (ret_seq (ret_block (ret_seq (ret_seq (ret_block (ret_seq ?_))))))
         have hs313 := St.tk0 hs300
         refine ret_of (.bool false) (by kernel_rfl) ⟨_, ⟨congrArg Value.bool (some_inj hm), rfl⟩, hs313⟩
    ·
     refine W.sr fun K314 hK314 => ?_
     refine zR 2 ?_
     obtain ⟨h316, hm⟩ := need_some hm
     have hk315 := lt_toNat h316
     refine ops_R (runs_index (a := sa) (n := ss.length) (z := p48) (size := 5) p48.toNat (nat_of h316.1) hk315 (kSt15.addr (hs95.oldCells hst) hk315) (by kernel_rfl)) ?_
     refine zR 1 ?_
     refine zL ((adr sa (p48.toNat * 5)).add 0) (.int .u8 ((ss.getD p48.toNat dSt15).c0)) (kSt15.at (hs95.oldCells hst) hk315 dSt15 0 rfl) ?_
     refine zE 1 (hK314 _ _ ?_)
     refine W.block ?_
     refine W.sr fun K317 hK317 => ?_
     refine zE 2 (hK317 _ _ ?_)
     refine W.cond (decide (((ss.getD p48.toNat dSt15).c0).tmod 4 = 0)) (by kernel_rfl) (fun h318 => ?_) (fun h318 => ?_)
     ·
      obtain ⟨h318p, hm⟩ := iY hm h318
      refine W.sr fun K319 hK319 => ?_
      refine zR 1 ?_
      refine ops_R (runs_loadAgg (ad := ⟨b24, 0, none⟩) (cs := [(.int .i64 1), (.int .i64 (2 + (19 : Int) % 20)), (.int .i64 (2 + b_ % 60))]) (by kernel_rfl) (cells_sub (hs95.heapAt 0 rfl) rfl)) ?_
      refine zR 1 ?_
      refine zL ⟨b75, 0, none⟩ (.string ((ss.getD p48.toNat dSt15).c2)) (hs95.cellAt 4 rfl rfl) ?_
      obtain ⟨r320, h321, hm⟩ := bind_some hm
      have hs322 := St.f3 hs95
      refine zC11 hs322 (eFind_walk (vb := b63) (gw := 1) (gi := (2 + (19 : Int) % 20)) (gb := (2 + b_ % 60)) (n_ := 1) (tx_ := (ss.getD p48.toNat dSt15).c2) (img := q40) (l := []) (hm := h321) B _) fun w323 hs325 => ?_
      refine zR 4 ?_
      refine zN [(.string ByteArray.empty), (.int .i64 0)] 33 hs325 fun b328 w326 hs327 => ?_
      refine ops_store (off := 0) (cs := [(.string ByteArray.empty), (.int .i64 0)]) (vs := [(.string r320.1), (.int .i64 r320.2.1)]) hs327 (by kernel_rfl) (by simp) rfl (fun w329 hs330 => ?_)
      have hs331 : St B w [] w329 [blk b328 (.cells [(.string r320.1), (.int .i64 r320.2.1)].toArray 33 (0, 0)), viewA (ptr b63) q40 ([]), blk b24 (.cells [(.int .i64 1), (.int .i64 (2 + (19 : Int) % 20)), (.int .i64 (2 + b_ % 60))].toArray 31 (0, 0)), kStr.row m41 m42 q43, kInt.row m44 m45 q46, blk b75 (.cells [(.string ((ss.getD p48.toNat dSt15).c2)), (.int .i64 (1 + ((mx ((ss.getD p48.toNat dSt15).c3) 0).tmod ((2 + (19 : Int) % 20) - 1))))].toArray 33 (0, 0)), kU64.row m38 m39 q40] := hs330
      refine zE 2 (hK319 _ _ ?_)
      refine W.sr fun K332 hK332 => ?_
      refine zE 2 (hK332 _ _ ?_)
      refine W.seq fun K333 hK333 => ?_
      have hs334 := hs331.drew
      refine W.regionD [(0, 0), (1, 1), (0, 0), (4, 4), (10, 10), (16, 16), (32, 32), (96, 96), (160, 160), (256, 256), (768, 768), (256, 256), (2304, 2304), (5376, 5376), (8448, 8448), (16384, 16384), (49152, 49152), (16384, 16384), (16384, 16384), (409600, 409600), (540672, 540672), (1130496, 1130496), (2113792, 2113792), (4194592, 4194592), (8388640, 8388640)] (fun w_ => St B w [] w_ [blk b328 (.cells [(.string r320.1), (.int .i64 r320.2.1)].toArray 33 (0, 0)), viewA (ptr b63) q40 ([]), blk b24 (.cells [(.int .i64 1), (.int .i64 (2 + (19 : Int) % 20)), (.int .i64 (2 + b_ % 60))].toArray 31 (0, 0)), kStr.row m41 m42 q43, kInt.row m44 m45 q46, blk b75 (.cells [(.string ((ss.getD p48.toNat dSt15).c2)), (.int .i64 (1 + ((mx ((ss.getD p48.toNat dSt15).c3) 0).tmod ((2 + (19 : Int) % 20) - 1))))].toArray 33 (0, 0)), kU64.row m38 m39 q40]) (by kernel_rfl) hs334 ?_
      refine any_val (v := (.int .i64 r320.2.2.2)) (v' := (.int .i64 r320.2.2.2)) 0 (by kernel_rfl) (fun _ => by kernel_rfl) rfl hs334 ?_
      refine any_val (v := (.bool (decide (r320.2.2.2 = 0)))) (v' := (.bool (decide (r320.2.2.2 = 0)))) 1 (by kernel_rfl) (fun _ => by kernel_rfl) rfl hs334 ?_
      refine any_val (v := (.int .i64 p87)) (v' := (.int .i64 p87)) 2 (by kernel_rfl) (fun _ => by kernel_rfl) rfl hs334 ?_
      refine any_val (v := (.bool (decide (p87 ≥ 0)))) (v' := (.bool (decide (p87 ≥ 0)))) 3 (by kernel_rfl) (fun _ => by kernel_rfl) rfl hs334 ?_
      refine any_val (v := (.bool (!((decide (r320.2.2.2 = 0)) == (decide (p87 ≥ 0)))))) (v' := (.bool (!((decide (r320.2.2.2 = 0)) == (decide (p87 ≥ 0)))))) 4 (by kernel_rfl) (fun _ => by kernel_rfl) rfl hs334 ?_
      refine any_val (v := (.bool (!((decide (r320.2.2.2 = 0)) == (decide (p87 ≥ 0)))))) (v' := (.bool (!((decide (r320.2.2.2 = 0)) == (decide (p87 ≥ 0)))))) 5 (by kernel_rfl) (fun _ => by kernel_rfl) rfl hs334 ?_
      rcases Bool.eq_false_or_eq_true (!((decide (r320.2.2.2 = 0)) == (decide (p87 ≥ 0)))) with h335 | h335
      rotate_left
      ·
       have h335p : ((r320.2.2.2 = 0) ↔ (p87 ≥ 0)) := beq_yes decide_eq_true_iff decide_eq_true_iff (bnot_false h335)
       replace hm := ite_yes hm h335p
       refine any_set 127 (v := .bool false) (eq_bool_of (by kernel_rfl) h335) ?_
       refine any_set 128 (v := .bool false) (eq_bool_of (by kernel_rfl) h335) ?_
       refine any_val (v := (.int .i64 r320.2.2.2)) (v' := (.int .i64 r320.2.2.2)) 6 (by kernel_rfl) (fun _ => by kernel_rfl) rfl hs334 ?_
       refine any_val (v := (.bool (decide (r320.2.2.2 = 0)))) (v' := (.bool (decide (r320.2.2.2 = 0)))) 7 (by kernel_rfl) (fun _ => by kernel_rfl) rfl hs334 ?_
       refine any_val (v := (.bool (decide (r320.2.2.2 = 0)))) (v' := (.bool (decide (r320.2.2.2 = 0)))) 8 (by kernel_rfl) (fun _ => by kernel_rfl) rfl hs334 ?_
       rcases Bool.eq_false_or_eq_true (decide (r320.2.2.2 = 0)) with h336 | h336
       ·
        obtain ⟨h336p, hm⟩ := iY hm h336
        refine any_set 124 (v := .bool true) (eq_bool_of (by kernel_rfl) h336) ?_
        refine any_set 130 (v := .bool true) (eq_bool_of (by kernel_rfl) h336) ?_
        refine any_set 131 (v := .bool true) (eq_bool_of (by kernel_rfl) h336) ?_
        refine any_val (v := (.pointer (some ⟨b328, 0, none⟩))) (v' := (.pointer (some ⟨b328, 0, none⟩))) 9 (by kernel_rfl) (fun _ => by kernel_rfl) rfl hs334 ?_
        refine any_R 10 (by kernel_rfl) (fun _ hS_ => runs_load (ad := ⟨b328, 0, none⟩) (v := (.string r320.1)) (by kernel_rfl) (hS_.cellAt 0 rfl rfl)) hs334 ?_
        refine any_val (v := (.pointer (some ⟨b75, 0, none⟩))) (v' := (.pointer (some ⟨b75, 0, none⟩))) 11 (by kernel_rfl) (fun _ => by kernel_rfl) rfl hs334 ?_
        refine any_R 12 (by kernel_rfl) (fun _ hS_ => runs_load (ad := ⟨b75, 0, none⟩) (v := (.string ((ss.getD p48.toNat dSt15).c2))) (by kernel_rfl) (hS_.cellAt 5 rfl rfl)) hs334 ?_
        refine any_val (v := (.bool (!(r320.1.toList == ((ss.getD p48.toNat dSt15).c2).toList)))) (v' := (.bool (!(r320.1.toList == ((ss.getD p48.toNat dSt15).c2).toList)))) 13 (by kernel_rfl) (fun _ => by kernel_rfl) rfl hs334 ?_
        refine any_val (v := (.bool (!(r320.1.toList == ((ss.getD p48.toNat dSt15).c2).toList)))) (v' := (.bool (!(r320.1.toList == ((ss.getD p48.toNat dSt15).c2).toList)))) 14 (by kernel_rfl) (fun _ => by kernel_rfl) rfl hs334 ?_
        rcases Bool.eq_false_or_eq_true (!(r320.1.toList == ((ss.getD p48.toNat dSt15).c2).toList)) with h337 | h337
        rotate_left
        ·
         have h337p : (r320.1.toList == ((ss.getD p48.toNat dSt15).c2).toList) = true := (bnot_false h337)
         replace hm := ite_yes hm h337p
         refine any_set 136 (v := .bool false) (eq_bool_of (by kernel_rfl) h337) ?_
         refine any_set 137 (v := .bool false) (eq_bool_of (by kernel_rfl) h337) ?_
         refine any_val (v := (.pointer (some ⟨b328, 1, none⟩))) (v' := (.pointer (some ⟨b328, 1, none⟩))) 15 (by kernel_rfl) (fun _ => by kernel_rfl) rfl hs334 ?_
         refine any_R 16 (by kernel_rfl) (fun _ hS_ => runs_load (ad := ⟨b328, 1, none⟩) (v := (.int .i64 r320.2.1)) (by kernel_rfl) (hS_.cellAt 0 rfl rfl)) hs334 ?_
         refine any_val (v := (.slice m44 n47 m45)) (v' := (.slice m44 n47 m45)) 17 (by kernel_rfl) (fun _ => by kernel_rfl) rfl hs334 ?_
         refine any_val (v := (.int .i64 p87)) (v' := (.int .i64 p87)) 18 (by kernel_rfl) (fun _ => by kernel_rfl) rfl hs334 ?_
         obtain ⟨h339, hm⟩ := need_some hm
         have hk338 := lt_toNat h339
         obtain ⟨h341, hm⟩ := need_some hm
         have hk340 := h341
         refine any_R 19 (by kernel_rfl) (fun _ hS_ => runs_index (a := m44) (n := n47) (z := p87) (size := 1) p87.toNat (nat_of h339.1) hk338 (kInt.addr (St.kcells kInt hs334 4 rfl) hk340) (by kernel_rfl)) hs334 ?_
         refine any_R 20 (by kernel_rfl) (fun _ hS_ => runs_load (ad := ((adr m44 (p87.toNat * 1)).add 0)) (v := (.int .i64 (q46.getD p87.toNat 0))) (by kernel_rfl) (kInt.at (St.kcells kInt hS_ 4 rfl) hk340 0 0 rfl)) hs334 ?_
         refine any_val (v := (.bool (!decide (r320.2.1 = (q46.getD p87.toNat 0))))) (v' := (.bool (!decide (r320.2.1 = (q46.getD p87.toNat 0))))) 21 (by kernel_rfl) (fun _ => by kernel_rfl) rfl hs334 ?_
         refine any_val (v := (.bool (!decide (r320.2.1 = (q46.getD p87.toNat 0))))) (v' := (.bool (!decide (r320.2.1 = (q46.getD p87.toNat 0))))) 22 (by kernel_rfl) (fun _ => by kernel_rfl) rfl hs334 ?_
         refine any_val (v := (.bool (!decide (r320.2.1 = (q46.getD p87.toNat 0))))) (v' := (.bool (!decide (r320.2.1 = (q46.getD p87.toNat 0))))) 23 (by kernel_rfl) (fun _ => by kernel_rfl) rfl hs334 ?_
         refine any_val (v := (.bool (!decide (r320.2.1 = (q46.getD p87.toNat 0))))) (v' := (.bool (!decide (r320.2.1 = (q46.getD p87.toNat 0))))) 24 (by kernel_rfl) (fun _ => by kernel_rfl) rfl hs334 ?_
         refine any_done (by kernel_rfl) ?_
         refine hK333 _ _ ?_
         refine W.cond (!decide (r320.2.1 = (q46.getD p87.toNat 0))) (by kernel_rfl) (fun h342 => ?_) (fun h342 => ?_)
         rotate_left
         ·
          have h342p : r320.2.1 = (q46.getD p87.toNat 0) := of_decide_eq_true (bnot_false h342)
          replace hm := ite_yes hm h342p
          refine W.skip ?_
          refine normal_block ?_
          have hs343 := St.f6 hs334
          have hs344 := St.f6 hs343
          have hs345 := St.f3 hs344
          have hs346 := St.f6 hs345
          have hs347 := St.f6 hs346
          have hs348 := St.f6 hs347
          have hs349 := St.tk6 hs348
          exact ⟨q43, q46, n47, ([]), r320.2.2.2, m41, m42, m44, m45, slots_intro _ (by kernel_rfl), hs349, hm⟩
         ·
          have h342p : ¬ (r320.2.1 = (q46.getD p87.toNat 0)) := of_decide_eq_false (bnot_true h342)
          replace hm := ite_no hm h342p
          refine W.sr fun K350 hK350 => ?_
          refine zE 1 (hK350 _ _ ?_)
          refine W.ret (ret_block (ret_seq (ret_block (ret_seq (ret_seq (ret_block (ret_seq ?_)))))))
          have hs351 := St.tk0 hs334
          refine ret_of (.bool false) (by kernel_rfl) ⟨_, ⟨congrArg Value.bool (some_inj hm), rfl⟩, hs351⟩
        ·
         have h337p : ¬ ((r320.1.toList == ((ss.getD p48.toNat dSt15).c2).toList) = true) := ne_true_of_eq_false (bnot_true h337)
         replace hm := ite_no hm h337p
         refine any_set 136 (v := .bool true) (eq_bool_of (by kernel_rfl) h337) ?_
         refine any_set 137 (v := .bool true) (eq_bool_of (by kernel_rfl) h337) ?_
         refine any_skip 15 (by kernel_rfl) (by kernel_rfl) hs334 ?_
         refine any_skip 16 (by kernel_rfl) (by kernel_rfl) hs334 ?_
         refine any_skip 17 (by kernel_rfl) (by kernel_rfl) hs334 ?_
         refine any_skip 18 (by kernel_rfl) (by kernel_rfl) hs334 ?_
         refine any_skip 19 (by kernel_rfl) (by kernel_rfl) hs334 ?_
         refine any_skip 20 (by kernel_rfl) (by kernel_rfl) hs334 ?_
         refine any_skip 21 (by kernel_rfl) (by kernel_rfl) hs334 ?_
         refine any_val (v := (.bool true)) (v' := (.bool true)) 22 (by kernel_rfl) (fun _ => by kernel_rfl) rfl hs334 ?_
         refine any_val (v := (.bool true)) (v' := (.bool true)) 23 (by kernel_rfl) (fun _ => by kernel_rfl) rfl hs334 ?_
         refine any_val (v := (.bool true)) (v' := (.bool true)) 24 (by kernel_rfl) (fun _ => by kernel_rfl) rfl hs334 ?_
         refine any_done (by kernel_rfl) ?_
         refine hK333 _ _ ?_
         refine W.cond_true true (by kernel_rfl) rfl ?_
         refine W.sr fun K352 hK352 => ?_
         refine zE 1 (hK352 _ _ ?_)
         refine W.ret (ret_block (ret_seq (ret_block (ret_seq (ret_seq (ret_block (ret_seq ?_)))))))
         have hs353 := St.tk0 hs334
         refine ret_of (.bool false) (by kernel_rfl) ⟨_, ⟨congrArg Value.bool (some_inj hm), rfl⟩, hs353⟩
       ·
        obtain ⟨h336p, hm⟩ := iN hm h336
        refine any_set 124 (v := .bool false) (eq_bool_of (by kernel_rfl) h336) ?_
        refine any_set 130 (v := .bool false) (eq_bool_of (by kernel_rfl) h336) ?_
        refine any_set 131 (v := .bool false) (eq_bool_of (by kernel_rfl) h336) ?_
        refine any_skip 9 (by kernel_rfl) (by kernel_rfl) hs334 ?_
        refine any_skip 10 (by kernel_rfl) (by kernel_rfl) hs334 ?_
        refine any_skip 11 (by kernel_rfl) (by kernel_rfl) hs334 ?_
        refine any_skip 12 (by kernel_rfl) (by kernel_rfl) hs334 ?_
        refine any_skip 13 (by kernel_rfl) (by kernel_rfl) hs334 ?_
        refine any_skip 14 (by kernel_rfl) (by kernel_rfl) hs334 ?_
        refine any_skip 15 (by kernel_rfl) (by kernel_rfl) hs334 ?_
        refine any_skip 16 (by kernel_rfl) (by kernel_rfl) hs334 ?_
        refine any_skip 17 (by kernel_rfl) (by kernel_rfl) hs334 ?_
        refine any_skip 18 (by kernel_rfl) (by kernel_rfl) hs334 ?_
        refine any_skip 19 (by kernel_rfl) (by kernel_rfl) hs334 ?_
        refine any_skip 20 (by kernel_rfl) (by kernel_rfl) hs334 ?_
        refine any_skip 21 (by kernel_rfl) (by kernel_rfl) hs334 ?_
        refine any_skip 22 (by kernel_rfl) (by kernel_rfl) hs334 ?_
        refine any_val (v := (.bool false)) (v' := (.bool false)) 23 (by kernel_rfl) (fun _ => by kernel_rfl) rfl hs334 ?_
        refine any_val (v := (.bool false)) (v' := (.bool false)) 24 (by kernel_rfl) (fun _ => by kernel_rfl) rfl hs334 ?_
        refine any_done (by kernel_rfl) ?_
        refine hK333 _ _ ?_
        refine W.cond_false false (by kernel_rfl) rfl ?_
        refine W.skip ?_
        refine normal_block ?_
        have hs354 := St.f6 hs334
        have hs355 := St.f6 hs354
        have hs356 := St.f3 hs355
        have hs357 := St.f6 hs356
        have hs358 := St.f6 hs357
        have hs359 := St.f6 hs358
        have hs360 := St.tk6 hs359
        exact ⟨q43, q46, n47, ([]), r320.2.2.2, m41, m42, m44, m45, slots_intro _ (by kernel_rfl), hs360, hm⟩
      ·
       have h335p : ¬ ((r320.2.2.2 = 0) ↔ (p87 ≥ 0)) := beq_no decide_eq_true_iff decide_eq_true_iff (bnot_true h335)
       replace hm := ite_no hm h335p
       refine any_set 127 (v := .bool true) (eq_bool_of (by kernel_rfl) h335) ?_
       refine any_set 128 (v := .bool true) (eq_bool_of (by kernel_rfl) h335) ?_
       refine any_skip 6 (by kernel_rfl) (by kernel_rfl) hs334 ?_
       refine any_skip 7 (by kernel_rfl) (by kernel_rfl) hs334 ?_
       refine any_skip 8 (by kernel_rfl) (by kernel_rfl) hs334 ?_
       refine any_skip 9 (by kernel_rfl) (by kernel_rfl) hs334 ?_
       refine any_skip 10 (by kernel_rfl) (by kernel_rfl) hs334 ?_
       refine any_skip 11 (by kernel_rfl) (by kernel_rfl) hs334 ?_
       refine any_skip 12 (by kernel_rfl) (by kernel_rfl) hs334 ?_
       refine any_skip 13 (by kernel_rfl) (by kernel_rfl) hs334 ?_
       refine any_skip 14 (by kernel_rfl) (by kernel_rfl) hs334 ?_
       refine any_skip 15 (by kernel_rfl) (by kernel_rfl) hs334 ?_
       refine any_skip 16 (by kernel_rfl) (by kernel_rfl) hs334 ?_
       refine any_skip 17 (by kernel_rfl) (by kernel_rfl) hs334 ?_
       refine any_skip 18 (by kernel_rfl) (by kernel_rfl) hs334 ?_
       refine any_skip 19 (by kernel_rfl) (by kernel_rfl) hs334 ?_
       refine any_skip 20 (by kernel_rfl) (by kernel_rfl) hs334 ?_
       refine any_skip 21 (by kernel_rfl) (by kernel_rfl) hs334 ?_
       refine any_skip 22 (by kernel_rfl) (by kernel_rfl) hs334 ?_
       refine any_skip 23 (by kernel_rfl) (by kernel_rfl) hs334 ?_
       refine any_val (v := (.bool true)) (v' := (.bool true)) 24 (by kernel_rfl) (fun _ => by kernel_rfl) rfl hs334 ?_
       refine any_done (by kernel_rfl) ?_
       refine hK333 _ _ ?_
       refine W.cond_true true (by kernel_rfl) rfl ?_
       refine W.sr fun K361 hK361 => ?_
       refine zE 1 (hK361 _ _ ?_)
       refine W.ret (ret_block (ret_seq (ret_block (ret_seq (ret_seq (ret_block (ret_seq ?_)))))))
       have hs362 := St.tk0 hs334
       refine ret_of (.bool false) (by kernel_rfl) ⟨_, ⟨congrArg Value.bool (some_inj hm), rfl⟩, hs362⟩
     ·
      obtain ⟨h318p, hm⟩ := iN hm h318
      refine W.sr fun K363 hK363 => ?_
      refine zE 2 (hK363 _ _ ?_)
      refine W.cond (decide (((ss.getD p48.toNat dSt15).c0).tmod 4 = 1)) (by kernel_rfl) (fun h364 => ?_) (fun h364 => ?_)
      ·
       obtain ⟨h364p, hm⟩ := iY hm h364
       refine W.sr fun K365 hK365 => ?_
       refine zR 1 ?_
       refine ops_R (runs_loadAgg (ad := ⟨b24, 0, none⟩) (cs := [(.int .i64 1), (.int .i64 (2 + (19 : Int) % 20)), (.int .i64 (2 + b_ % 60))]) (by kernel_rfl) (cells_sub (hs95.heapAt 0 rfl) rfl)) ?_
       refine ops_R (runs_loadAgg (ad := ⟨b75, 0, none⟩) (cs := [(.string ((ss.getD p48.toNat dSt15).c2)), (.int .i64 (1 + ((mx ((ss.getD p48.toNat dSt15).c3) 0).tmod ((2 + (19 : Int) % 20) - 1))))]) (by kernel_rfl) (cells_sub (hs95.heapAt 4 rfl) rfl)) ?_
       obtain ⟨r366, h367, hm⟩ := bind_some hm
       have hs368 := St.f3 hs95
       refine zC11 hs368 (eAdd_walk (vb := b63) (hG := hG) (hT := (hs95.oldCells hT)) (gw := 1) (gi := (2 + (19 : Int) % 20)) (gb := (2 + b_ % 60)) (n_ := 1) (xn_ := (ss.getD p48.toNat dSt15).c2) (xi_ := (1 + ((mx ((ss.getD p48.toNat dSt15).c3) 0).tmod ((2 + (19 : Int) % 20) - 1)))) (img := q40) (l := []) (hm := h367) B _) fun w369 hs371 => ?_
       refine zE 1 (hK365 _ _ ?_)
       refine W.seq_join (fun s_ w_ => (∃ us, s_ = slots 288 [(1, (.slice sa ss.length sc)), (5, (.pointer (some ⟨b24, 0, none⟩))), (7, (.slice m41 q43.length m42)), (8, (.slice m44 n47 m45)), (9, (.int .i64 p48)), (10, (.pointer (some ⟨b63, 0, none⟩))), (11, (.pointer (some ⟨b75, 0, none⟩))), (14, (.bool r91)), (15, (.int .i64 r366.1))] us) ∧ St B w [] w_ [blk b24 (.cells [(.int .i64 1), (.int .i64 (2 + (19 : Int) % 20)), (.int .i64 (2 + b_ % 60))].toArray 31 (0, 0)), kStr.row m41 m42 q43, kInt.row m44 m45 q46, viewA (ptr b63) q40 r366.2, blk b75 (.cells [(.string ((ss.getD p48.toNat dSt15).c2)), (.int .i64 (1 + ((mx ((ss.getD p48.toNat dSt15).c3) 0).tmod ((2 + (19 : Int) % 20) - 1))))].toArray 33 (0, 0)), kU64.row m38 m39 q40] ∧ entrytable_J8 b_ ss k49 q40 q43 q46 n47 p48 r91 r366 = some true) ?_ ?_
       ·
        rintro _ w372 ⟨⟨us, rfl⟩, hs373, hm⟩
        unfold entrytable_J8 at hm
        refine W.sr fun K374 hK374 => ?_
        refine zE 2 (hK374 _ _ ?_)
        refine W.cond (decide (r366.1 = 0)) (by kernel_rfl) (fun h375 => ?_) (fun h375 => ?_)
        ·
         obtain ⟨h375p, hm⟩ := iY hm h375
         refine W.sr fun K376 hK376 => ?_
         refine zR 2 ?_
         refine zL ⟨b75, 0, none⟩ (.string ((ss.getD p48.toNat dSt15).c2)) (hs373.cellAt 4 rfl rfl) ?_
         refine ops_new (fun b => .slice (some ⟨b, 0, none⟩) 1 1) (.cells [(.string ((ss.getD p48.toNat dSt15).c2))].toArray 9 (0, 0)) hs373 (by kernel_rfl) (fun b379 w377 hs378 => ?_)
         have hs380 := St.f2 hs378
         obtain ⟨h385, hm⟩ := need_some hm
         refine ops_appendK kStr (bytes := 16) (a' := (some ⟨b379, 0, none⟩)) (c' := 1) (l := q43) (m := [(ss.getD p48.toNat dSt15).c2]) hs380 (by kernel_rfl) (by simp) (cells_blk (hs380.heapAt 1 rfl)) (by unfold maxLen; (try simp only [List.length_cons, List.length_nil]); omega) (by (try simp only [List.length_cons, List.length_nil]); omega) (fun a381 c382 w383 hs384 => ?_)
         refine zE 1 (hK376 _ _ ?_)
         refine W.region ?_
         refine zR 2 ?_
         refine zL ⟨b75, 1, none⟩ (.int .i64 (1 + ((mx ((ss.getD p48.toNat dSt15).c3) 0).tmod ((2 + (19 : Int) % 20) - 1)))) (hs384.cellAt 5 rfl rfl) ?_
         refine ops_new (fun b => .slice (some ⟨b, 0, none⟩) 1 1) (.cells [(.int .i64 (1 + ((mx ((ss.getD p48.toNat dSt15).c3) 0).tmod ((2 + (19 : Int) % 20) - 1))))].toArray 3 (0, 0)) hs384 (by kernel_rfl) (fun b388 w386 hs387 => ?_)
         have hs389 := St.f4 hs387
         obtain ⟨h394, hm⟩ := need_some hm
         obtain ⟨h395, hm⟩ := need_some hm
         refine ops_appendKn kInt (bytes := 8) (a' := (some ⟨b388, 0, none⟩)) (c' := 1) (l := q46) (m := [(1 + ((mx ((ss.getD p48.toNat dSt15).c3) 0).tmod ((2 + (19 : Int) % 20) - 1)))]) hs389 h395 rfl (by kernel_rfl) (by simp) (cells_blk (hs389.heapAt 1 rfl)) (by unfold maxLen; (try simp only [List.length_cons, List.length_nil]); omega) (by (try simp only [List.length_cons, List.length_nil]); omega) (fun a390 c391 w392 hs393 => ?_)
         refine zE 1 ?_
         refine normal_block ?_
         have hs396 := St.f7 hs393
         have hs397 := St.f7 hs396
         have hs398 := St.f7 hs397
         have hs399 := St.f3 hs398
         have hs400 := St.f5 hs399
         have hs401 := St.f7 hs400
         have hs402 := St.tk6 hs401
         exact ⟨(q43 ++ [(ss.getD p48.toNat dSt15).c2]), (q46 ++ [(1 + ((mx ((ss.getD p48.toNat dSt15).c3) 0).tmod ((2 + (19 : Int) % 20) - 1)))]), ((q46 ++ [(1 + ((mx ((ss.getD p48.toNat dSt15).c3) 0).tmod ((2 + (19 : Int) % 20) - 1)))]).length), r366.2, r366.1, a381, c382, a390, c391, slots_intro _ (by kernel_rfl), hs402, hm⟩
        ·
         obtain ⟨h375p, hm⟩ := iN hm h375
         refine W.skip ?_
         refine normal_block ?_
         exact ⟨q43, q46, n47, r366.2, r366.1, m41, m42, m44, m45, slots_intro _ (by kernel_rfl), hs373, hm⟩
       ·
        refine W.sr fun K403 hK403 => ?_
        refine zR 6 ?_
        rcases Bool.eq_false_or_eq_true (!((decide (r366.1 = 9)) == (decide (p87 ≥ 0)))) with h404 | h404
        rotate_left
        ·
         have h404p : ((r366.1 = 9) ↔ (p87 ≥ 0)) := beq_yes decide_eq_true_iff decide_eq_true_iff (bnot_false h404)
         replace hm := ite_yes hm h404p
         refine zS 159 h404 ?_
         refine zS 158 h404 ?_
         refine zR 3 ?_
         rcases Bool.eq_false_or_eq_true (decide (r366.1 = 16)) with h405 | h405
         ·
          obtain ⟨h405p, hm⟩ := iY hm h405
          refine zS 162 h405 ?_
          refine zS 161 h405 ?_
          refine zR 6 ?_
          rcases Bool.eq_false_or_eq_true (!decide ((q43.length : Int) = 12)) with h406 | h406
          rotate_left
          ·
           have h406p : (q43.length : Int) = 12 := of_decide_eq_true (bnot_false h406)
           replace hm := ite_yes hm h406p
           refine zS 168 h406 ?_
           refine zS 165 h406 ?_
           refine zS 166 h406 ?_
           refine zS 167 h406 ?_
           refine zR 3 ?_
           rcases Bool.eq_false_or_eq_true (decide (r366.1 = 0)) with h407 | h407
           ·
            obtain ⟨h407p, hm⟩ := iY hm h407
            refine zS 171 h407 ?_
            refine zS 170 h407 ?_
            refine zR 6 ?_
            rcases Bool.eq_false_or_eq_true (decide ((q43.length : Int) ≥ 12)) with h408 | h408
            ·
             obtain ⟨h408p, hm⟩ := iY hm h408
             refine zS 177 h408 ?_
             refine zS 174 h408 ?_
             refine zS 175 h408 ?_
             refine zS 176 h408 ?_
             refine zE 6 (hK403 _ _ ?_)
             refine W.cond_true true (by kernel_rfl) rfl ?_
             refine W.sr fun K409 hK409 => ?_
             refine zE 1 (hK409 _ _ ?_)
             refine W.ret (ret_seq (ret_block (ret_seq (ret_block (ret_seq (ret_seq (ret_block (ret_seq ?_))))))))
             have hs410 := St.tk0 hs371
             refine ret_of (.bool false) (by kernel_rfl) ⟨_, ⟨congrArg Value.bool (some_inj hm), rfl⟩, hs410⟩
            ·
             obtain ⟨h408p, hm⟩ := iN hm h408
             refine zS 177 h408 ?_
             refine zS 174 h408 ?_
             refine zS 175 h408 ?_
             refine zS 176 h408 ?_
             refine zE 6 (hK403 _ _ ?_)
             refine W.cond (!((decide (r366.1 = 13)) == (!r91))) (by kernel_rfl) (fun h411 => ?_) (fun h411 => ?_)
             rotate_left
             ·
              have h411p : ((r366.1 = 13) ↔ (¬ (r91 = true))) := beq_yes decide_eq_true_iff (not_iff_of Iff.rfl) (bnot_false h411)
              replace hm := ite_yes hm h411p
              refine W.skip ?_
              have hs412 := St.f5 hs371
              have hs413 := St.f5 hs412
              have hs414 := St.f2 hs413
              have hs415 := St.f5 hs414
              have hs416 := St.f5 hs415
              have hs417 := St.f5 hs416
              exact ⟨slots_intro _ (by kernel_rfl), hs417, hm⟩
             ·
              have h411p : ¬ ((r366.1 = 13) ↔ (¬ (r91 = true))) := beq_no decide_eq_true_iff (not_iff_of Iff.rfl) (bnot_true h411)
              replace hm := ite_no hm h411p
              refine W.sr fun K418 hK418 => ?_
              refine zE 1 (hK418 _ _ ?_)
              refine W.ret (ret_seq (ret_block (ret_seq (ret_block (ret_seq (ret_seq (ret_block (ret_seq ?_))))))))
              have hs419 := St.tk0 hs371
              refine ret_of (.bool false) (by kernel_rfl) ⟨_, ⟨congrArg Value.bool (some_inj hm), rfl⟩, hs419⟩
           ·
            obtain ⟨h407p, hm⟩ := iN hm h407
            refine zS 171 h407 ?_
            refine zS 170 h407 ?_
            refine zE 12 (hK403 _ _ ?_)
            refine W.cond (!((decide (r366.1 = 13)) == (!r91))) (by kernel_rfl) (fun h420 => ?_) (fun h420 => ?_)
            rotate_left
            ·
             have h420p : ((r366.1 = 13) ↔ (¬ (r91 = true))) := beq_yes decide_eq_true_iff (not_iff_of Iff.rfl) (bnot_false h420)
             replace hm := ite_yes hm h420p
             refine W.skip ?_
             have hs421 := St.f5 hs371
             have hs422 := St.f5 hs421
             have hs423 := St.f2 hs422
             have hs424 := St.f5 hs423
             have hs425 := St.f5 hs424
             have hs426 := St.f5 hs425
             exact ⟨slots_intro _ (by kernel_rfl), hs426, hm⟩
            ·
             have h420p : ¬ ((r366.1 = 13) ↔ (¬ (r91 = true))) := beq_no decide_eq_true_iff (not_iff_of Iff.rfl) (bnot_true h420)
             replace hm := ite_no hm h420p
             refine W.sr fun K427 hK427 => ?_
             refine zE 1 (hK427 _ _ ?_)
             refine W.ret (ret_seq (ret_block (ret_seq (ret_block (ret_seq (ret_seq (ret_block (ret_seq ?_))))))))
             have hs428 := St.tk0 hs371
             refine ret_of (.bool false) (by kernel_rfl) ⟨_, ⟨congrArg Value.bool (some_inj hm), rfl⟩, hs428⟩
          ·
           have h406p : ¬ ((q43.length : Int) = 12) := of_decide_eq_false (bnot_true h406)
           replace hm := ite_no hm h406p
           refine zS 168 h406 ?_
           refine zS 165 h406 ?_
           refine zS 166 h406 ?_
           refine zS 167 h406 ?_
           refine zE 15 (hK403 _ _ ?_)
           refine W.cond_true true (by kernel_rfl) rfl ?_
           refine W.sr fun K429 hK429 => ?_
           refine zE 1 (hK429 _ _ ?_)
           refine W.ret (ret_seq (ret_block (ret_seq (ret_block (ret_seq (ret_seq (ret_block (ret_seq ?_))))))))
           have hs430 := St.tk0 hs371
           refine ret_of (.bool false) (by kernel_rfl) ⟨_, ⟨congrArg Value.bool (some_inj hm), rfl⟩, hs430⟩
         ·
          obtain ⟨h405p, hm⟩ := iN hm h405
          refine zS 162 h405 ?_
          refine zS 161 h405 ?_
          refine zR 9 ?_
          rcases Bool.eq_false_or_eq_true (decide (r366.1 = 0)) with h431 | h431
          ·
           obtain ⟨h431p, hm⟩ := iY hm h431
           refine zS 171 h431 ?_
           refine zS 170 h431 ?_
           refine zR 6 ?_
           rcases Bool.eq_false_or_eq_true (decide ((q43.length : Int) ≥ 12)) with h432 | h432
           ·
            obtain ⟨h432p, hm⟩ := iY hm h432
            refine zS 177 h432 ?_
            refine zS 174 h432 ?_
            refine zS 175 h432 ?_
            refine zS 176 h432 ?_
            refine zE 6 (hK403 _ _ ?_)
            refine W.cond_true true (by kernel_rfl) rfl ?_
            refine W.sr fun K433 hK433 => ?_
            refine zE 1 (hK433 _ _ ?_)
            refine W.ret (ret_seq (ret_block (ret_seq (ret_block (ret_seq (ret_seq (ret_block (ret_seq ?_))))))))
            have hs434 := St.tk0 hs371
            refine ret_of (.bool false) (by kernel_rfl) ⟨_, ⟨congrArg Value.bool (some_inj hm), rfl⟩, hs434⟩
           ·
            obtain ⟨h432p, hm⟩ := iN hm h432
            refine zS 177 h432 ?_
            refine zS 174 h432 ?_
            refine zS 175 h432 ?_
            refine zS 176 h432 ?_
            refine zE 6 (hK403 _ _ ?_)
            refine W.cond (!((decide (r366.1 = 13)) == (!r91))) (by kernel_rfl) (fun h435 => ?_) (fun h435 => ?_)
            rotate_left
            ·
             have h435p : ((r366.1 = 13) ↔ (¬ (r91 = true))) := beq_yes decide_eq_true_iff (not_iff_of Iff.rfl) (bnot_false h435)
             replace hm := ite_yes hm h435p
             refine W.skip ?_
             have hs436 := St.f5 hs371
             have hs437 := St.f5 hs436
             have hs438 := St.f2 hs437
             have hs439 := St.f5 hs438
             have hs440 := St.f5 hs439
             have hs441 := St.f5 hs440
             exact ⟨slots_intro _ (by kernel_rfl), hs441, hm⟩
            ·
             have h435p : ¬ ((r366.1 = 13) ↔ (¬ (r91 = true))) := beq_no decide_eq_true_iff (not_iff_of Iff.rfl) (bnot_true h435)
             replace hm := ite_no hm h435p
             refine W.sr fun K442 hK442 => ?_
             refine zE 1 (hK442 _ _ ?_)
             refine W.ret (ret_seq (ret_block (ret_seq (ret_block (ret_seq (ret_seq (ret_block (ret_seq ?_))))))))
             have hs443 := St.tk0 hs371
             refine ret_of (.bool false) (by kernel_rfl) ⟨_, ⟨congrArg Value.bool (some_inj hm), rfl⟩, hs443⟩
          ·
           obtain ⟨h431p, hm⟩ := iN hm h431
           refine zS 171 h431 ?_
           refine zS 170 h431 ?_
           refine zE 12 (hK403 _ _ ?_)
           refine W.cond (!((decide (r366.1 = 13)) == (!r91))) (by kernel_rfl) (fun h444 => ?_) (fun h444 => ?_)
           rotate_left
           ·
            have h444p : ((r366.1 = 13) ↔ (¬ (r91 = true))) := beq_yes decide_eq_true_iff (not_iff_of Iff.rfl) (bnot_false h444)
            replace hm := ite_yes hm h444p
            refine W.skip ?_
            have hs445 := St.f5 hs371
            have hs446 := St.f5 hs445
            have hs447 := St.f2 hs446
            have hs448 := St.f5 hs447
            have hs449 := St.f5 hs448
            have hs450 := St.f5 hs449
            exact ⟨slots_intro _ (by kernel_rfl), hs450, hm⟩
           ·
            have h444p : ¬ ((r366.1 = 13) ↔ (¬ (r91 = true))) := beq_no decide_eq_true_iff (not_iff_of Iff.rfl) (bnot_true h444)
            replace hm := ite_no hm h444p
            refine W.sr fun K451 hK451 => ?_
            refine zE 1 (hK451 _ _ ?_)
            refine W.ret (ret_seq (ret_block (ret_seq (ret_block (ret_seq (ret_seq (ret_block (ret_seq ?_))))))))
            have hs452 := St.tk0 hs371
            refine ret_of (.bool false) (by kernel_rfl) ⟨_, ⟨congrArg Value.bool (some_inj hm), rfl⟩, hs452⟩
        ·
         have h404p : ¬ ((r366.1 = 9) ↔ (p87 ≥ 0)) := beq_no decide_eq_true_iff decide_eq_true_iff (bnot_true h404)
         replace hm := ite_no hm h404p
         refine zS 159 h404 ?_
         refine zS 158 h404 ?_
         refine zE 24 (hK403 _ _ ?_)
         refine W.cond_true true (by kernel_rfl) rfl ?_
         refine W.sr fun K453 hK453 => ?_
         refine zE 1 (hK453 _ _ ?_)
         refine W.ret (ret_seq (ret_block (ret_seq (ret_block (ret_seq (ret_seq (ret_block (ret_seq ?_))))))))
         have hs454 := St.tk0 hs371
         refine ret_of (.bool false) (by kernel_rfl) ⟨_, ⟨congrArg Value.bool (some_inj hm), rfl⟩, hs454⟩
      ·
       obtain ⟨h364p, hm⟩ := iN hm h364
       refine W.sr fun K455 hK455 => ?_
       refine zE 2 (hK455 _ _ ?_)
       refine W.cond (decide (((ss.getD p48.toNat dSt15).c0).tmod 4 = 2)) (by kernel_rfl) (fun h456 => ?_) (fun h456 => ?_)
       ·
        obtain ⟨h456p, hm⟩ := iY hm h456
        refine W.sr fun K457 hK457 => ?_
        refine zR 1 ?_
        refine ops_R (runs_loadAgg (ad := ⟨b24, 0, none⟩) (cs := [(.int .i64 1), (.int .i64 (2 + (19 : Int) % 20)), (.int .i64 (2 + b_ % 60))]) (by kernel_rfl) (cells_sub (hs95.heapAt 0 rfl) rfl)) ?_
        refine ops_R (runs_loadAgg (ad := ⟨b75, 0, none⟩) (cs := [(.string ((ss.getD p48.toNat dSt15).c2)), (.int .i64 (1 + ((mx ((ss.getD p48.toNat dSt15).c3) 0).tmod ((2 + (19 : Int) % 20) - 1))))]) (by kernel_rfl) (cells_sub (hs95.heapAt 4 rfl) rfl)) ?_
        obtain ⟨r458, h459, hm⟩ := bind_some hm
        have hs460 := St.f3 hs95
        refine zC11 hs460 (eChange_walk (vb := b63) (gw := 1) (gi := (2 + (19 : Int) % 20)) (gb := (2 + b_ % 60)) (n_ := 1) (xn_ := (ss.getD p48.toNat dSt15).c2) (xi_ := (1 + ((mx ((ss.getD p48.toNat dSt15).c3) 0).tmod ((2 + (19 : Int) % 20) - 1)))) (img := q40) (l := []) (hm := h459) B _) fun w461 hs463 => ?_
        refine zE 1 (hK457 _ _ ?_)
        refine W.seq fun K464 hK464 => ?_
        refine W.sr fun K465 hK465 => ?_
        refine zE 5 (hK465 _ _ ?_)
        refine W.cond (!((decide (r458.1 = 0)) == (decide (p87 ≥ 0)))) (by kernel_rfl) (fun h466 => ?_) (fun h466 => ?_)
        rotate_left
        ·
         have h466p : ((r458.1 = 0) ↔ (p87 ≥ 0)) := beq_yes decide_eq_true_iff decide_eq_true_iff (bnot_false h466)
         replace hm := ite_yes hm h466p
         refine W.skip ?_
         refine hK464 _ _ ?_
         refine W.sr fun K467 hK467 => ?_
         refine zE 2 (hK467 _ _ ?_)
         refine W.cond (decide (p87 ≥ 0)) (by kernel_rfl) (fun h468 => ?_) (fun h468 => ?_)
         ·
          obtain ⟨h468p, hm⟩ := iY hm h468
          refine W.region ?_
          refine zR 3 ?_
          refine zL ⟨b75, 1, none⟩ (.int .i64 (1 + ((mx ((ss.getD p48.toNat dSt15).c3) 0).tmod ((2 + (19 : Int) % 20) - 1)))) (hs463.cellAt 4 rfl rfl) ?_
          obtain ⟨h470, hm⟩ := need_some hm
          have hk469 := lt_toNat h470
          obtain ⟨h472, hm⟩ := need_some hm
          have hk471 := h472
          refine ops_R (runs_index (a := m44) (n := n47) (z := p87) (size := 1) p87.toNat (nat_of h470.1) hk469 (kInt.addr (St.kcells kInt hs463 3 rfl) hk471) (by kernel_rfl)) ?_
          have hs475 := St.f3 hs463
          refine ops_storeK kInt (j := 0) (vs := [(.int .i64 (1 + ((mx ((ss.getD p48.toNat dSt15).c3) 0).tmod ((2 + (19 : Int) % 20) - 1))))]) 0 (1 + ((mx ((ss.getD p48.toNat dSt15).c3) 0).tmod ((2 + (19 : Int) % 20) - 1))) hs475 hk471 (Nat.le_of_ble_eq_true rfl) (by simp) rfl rfl (by kernel_rfl) (fun w473 hs474 => ?_)
          refine zD ?_
          refine normal_block ?_
          have hs477 := St.f5 hs474
          have hs478 := St.f5 hs477
          have hs479 := St.f3 hs478
          have hs480 := St.f3 hs479
          have hs481 := St.f5 hs480
          have hs482 := St.f5 hs481
          exact ⟨q43, (q46.set p87.toNat (1 + ((mx ((ss.getD p48.toNat dSt15).c3) 0).tmod ((2 + (19 : Int) % 20) - 1)))), n47, r458.2, r458.1, m41, m42, m44, m45, slots_intro _ (by kernel_rfl), hs482, hm⟩
         ·
          obtain ⟨h468p, hm⟩ := iN hm h468
          refine W.skip ?_
          refine normal_block ?_
          have hs483 := St.f5 hs463
          have hs484 := St.f5 hs483
          have hs485 := St.f2 hs484
          have hs486 := St.f5 hs485
          have hs487 := St.f5 hs486
          have hs488 := St.f5 hs487
          exact ⟨q43, q46, n47, r458.2, r458.1, m41, m42, m44, m45, slots_intro _ (by kernel_rfl), hs488, hm⟩
        ·
         have h466p : ¬ ((r458.1 = 0) ↔ (p87 ≥ 0)) := beq_no decide_eq_true_iff decide_eq_true_iff (bnot_true h466)
         replace hm := ite_no hm h466p
         refine W.sr fun K489 hK489 => ?_
         refine zE 1 (hK489 _ _ ?_)
         refine W.ret (ret_seq (ret_block (ret_seq (ret_block (ret_seq (ret_seq (ret_block (ret_seq ?_))))))))
         have hs490 := St.tk0 hs463
         refine ret_of (.bool false) (by kernel_rfl) ⟨_, ⟨congrArg Value.bool (some_inj hm), rfl⟩, hs490⟩
       ·
        obtain ⟨h456p, hm⟩ := iN hm h456
        refine W.sr fun K491 hK491 => ?_
        refine zR 1 ?_
        refine ops_R (runs_loadAgg (ad := ⟨b24, 0, none⟩) (cs := [(.int .i64 1), (.int .i64 (2 + (19 : Int) % 20)), (.int .i64 (2 + b_ % 60))]) (by kernel_rfl) (cells_sub (hs95.heapAt 0 rfl) rfl)) ?_
        refine zR 1 ?_
        refine zL ⟨b75, 0, none⟩ (.string ((ss.getD p48.toNat dSt15).c2)) (hs95.cellAt 4 rfl rfl) ?_
        obtain ⟨r492, h493, hm⟩ := bind_some hm
        have hs494 := St.f3 hs95
        refine zC11 hs494 (eRemove_walk (vb := b63) (gw := 1) (gi := (2 + (19 : Int) % 20)) (gb := (2 + b_ % 60)) (n_ := 1) (tx_ := (ss.getD p48.toNat dSt15).c2) (img := q40) (l := []) (hm := h493) B _) fun w495 hs497 => ?_
        refine zE 1 (hK491 _ _ ?_)
        refine W.seq fun K498 hK498 => ?_
        refine W.sr fun K499 hK499 => ?_
        refine zE 5 (hK499 _ _ ?_)
        refine W.cond (!((decide (r492.1 = 0)) == (decide (p87 ≥ 0)))) (by kernel_rfl) (fun h500 => ?_) (fun h500 => ?_)
        rotate_left
        ·
         have h500p : ((r492.1 = 0) ↔ (p87 ≥ 0)) := beq_yes decide_eq_true_iff decide_eq_true_iff (bnot_false h500)
         replace hm := ite_yes hm h500p
         refine W.skip ?_
         refine hK498 _ _ ?_
         refine W.sr fun K501 hK501 => ?_
         refine zE 2 (hK501 _ _ ?_)
         refine W.cond (decide (p87 ≥ 0)) (by kernel_rfl) (fun h502 => ?_) (fun h502 => ?_)
         ·
          obtain ⟨h502p, hm⟩ := iY hm h502
          refine W.seq fun K503 hK503 => ?_
          have hs504 := hs497.drew
          refine W.regionD [(0, 0), (0, 0), (0, 0), (6, 6), (9, 9), (0, 0), (0, 0), (64, 64), (160, 160), (272, 272), (1023, 546)] (fun w_ => St B w [] w_ [viewA (ptr b63) q40 r492.2, blk b24 (.cells [(.int .i64 1), (.int .i64 (2 + (19 : Int) % 20)), (.int .i64 (2 + b_ % 60))].toArray 31 (0, 0)), kStr.row m41 m42 q43, kInt.row m44 m45 q46, blk b75 (.cells [(.string ((ss.getD p48.toNat dSt15).c2)), (.int .i64 (1 + ((mx ((ss.getD p48.toNat dSt15).c3) 0).tmod ((2 + (19 : Int) % 20) - 1))))].toArray 33 (0, 0)), kU64.row m38 m39 q40]) (by kernel_rfl) hs504 ?_
          refine any_val (v := (.slice m41 q43.length m42)) (v' := (.slice m41 q43.length m42)) 1 (by kernel_rfl) (fun _ => by kernel_rfl) rfl hs504 ?_
          refine any_val (v := (.int .i64 p87)) (v' := (.int .i64 p87)) 2 (by kernel_rfl) (fun _ => by kernel_rfl) rfl hs504 ?_
          obtain ⟨h505, hm⟩ := need_some hm
          have hc506 := St.kcap kStr hs504 2 rfl
          refine any_R 3 (by kernel_rfl) (fun _ hS_ => runs_prefixL (a := m41) (n := q43.length) (c := m42) (z := p87) (size := 1) p87.toNat (q43.take p87.toNat).length (le_take_len (le_toNat h505)) (nat_of h505.1) (le_toNat h505) hc506 (by kernel_rfl)) hs504 ?_
          refine any_val (v := (.slice m41 q43.length m42)) (v' := (.slice m41 q43.length m42)) 5 (by kernel_rfl) (fun _ => by kernel_rfl) rfl hs504 ?_
          refine any_val (v := (.int .i64 p87)) (v' := (.int .i64 p87)) 6 (by kernel_rfl) (fun _ => by kernel_rfl) rfl hs504 ?_
          obtain ⟨h507, hm⟩ := need_some hm
          refine any_val (v := .int .i64 (IntKind.i64.wrap (p87 + 1))) (v' := .int .i64 (p87 + 1)) 7 (by kernel_rfl) (fun _ => by kernel_rfl) (congrArg (Value.int .i64) (wrap_i64 h507.1 h507.2)) hs504 ?_
          obtain ⟨h508, hm⟩ := need_some hm
          have h509 : (p87 + 1).toNat ≤ q43.length := by omega
          have h510 : q43.length ≤ q43.length := Nat.le_refl _
          have h511 : q43.length ≤ m42 := (St.kcap kStr hs504 2 rfl)
          refine any_R 8 (by kernel_rfl) (fun _ hS_ => runs_from (a := m41) (n := q43.length) (c := m42) (lo := (p87 + 1)) (size := 1) ((p87 + 1).toNat) ((q43.drop ((p87 + 1).toNat)).take (q43.length - ((p87 + 1).toNat))).length (nat_of h508.1) h509 h511 (part_len h509 h510) (by kernel_rfl)) hs504 ?_
          refine any_step 0 (by kernel_rfl) (by kernel_rfl) ?_
          refine ops_new (fun b => .slice (some ⟨b, 0, none⟩) 0 0) (.cells [].toArray 9 (0, 0)) hs504 (by kernel_rfl) (fun b514 w512 hs513 => ?_)
          have hs515 := St.f6 hs513
          have hs516 := St.f6 hs515
          have hs517 := St.f6 hs516
          have hs518 := St.f6 hs517
          have hs519 := St.f6 hs518
          have hs520 := St.f6 hs519
          have hs521 := St.tk6 hs520
          refine ops_done (by kernel_rfl) ⟨hs521, ?_⟩
          refine any_step 4 (by kernel_rfl) (by kernel_rfl) ?_
          have hs522 : St B w [] w512 [kStr.row (some ⟨b514, 0, none⟩) 0 ([]), viewA (ptr b63) q40 r492.2, blk b24 (.cells [(.int .i64 1), (.int .i64 (2 + (19 : Int) % 20)), (.int .i64 (2 + b_ % 60))].toArray 31 (0, 0)), kStr.row m41 m42 q43, kInt.row m44 m45 q46, blk b75 (.cells [(.string ((ss.getD p48.toNat dSt15).c2)), (.int .i64 (1 + ((mx ((ss.getD p48.toNat dSt15).c3) 0).tmod ((2 + (19 : Int) % 20) - 1))))].toArray 33 (0, 0)), kU64.row m38 m39 q40] := St.kblk kStr [] hs513 rfl rfl (by simp only [List.length_cons, List.length_nil]; decide)
          obtain ⟨h527, hm⟩ := need_some hm
          refine ops_appendK kStr (bytes := 16) (a' := m41) (c' := m42) (l := []) (m := (q43.take p87.toNat)) hs522 (by kernel_rfl) (St.capnil kStr hs522 3 rfl) (cells_take kStr p87.toNat (St.kcells kStr hs522 3 rfl)) (by (unfold maxLen; try simp) <;> omega) (by (try simp) <;> omega) (fun a523 c524 w525 hs526 => ?_)
          have hs528 : St B w [] w525 [kStr.row a523 c524 (q43.take p87.toNat), viewA (ptr b63) q40 r492.2, blk b24 (.cells [(.int .i64 1), (.int .i64 (2 + (19 : Int) % 20)), (.int .i64 (2 + b_ % 60))].toArray 31 (0, 0)), kStr.row m41 m42 q43, kInt.row m44 m45 q46, blk b75 (.cells [(.string ((ss.getD p48.toNat dSt15).c2)), (.int .i64 (1 + ((mx ((ss.getD p48.toNat dSt15).c3) 0).tmod ((2 + (19 : Int) % 20) - 1))))].toArray 33 (0, 0)), kU64.row m38 m39 q40] := hs526
          have hs529 := St.f6 hs528
          have hs530 := St.f6 hs529
          have hs531 := St.f6 hs530
          have hs532 := St.f6 hs531
          have hs533 := St.f6 hs532
          have hs534 := St.f6 hs533
          have hs535 := St.tk6 hs534
          refine ops_done (by kernel_rfl) ⟨hs535, ?_⟩
          refine any_step 9 (by kernel_rfl) (by kernel_rfl) ?_
          obtain ⟨h540, hm⟩ := need_some hm
          refine ops_appendK kStr (bytes := 16) (a' := (partA m41 m42 ((p87 + 1).toNat) 1)) (c' := (m42 - ((p87 + 1).toNat))) (l := (q43.take p87.toNat)) (m := ((q43.drop ((p87 + 1).toNat)).take (q43.length - ((p87 + 1).toNat)))) hs528 (by kernel_rfl) (part_nil (St.capnil kStr hs528 3 rfl)) (part_cells kStr (St.kcells kStr hs528 3 rfl) h509 h510 h511) (by unfold maxLen; (try simp only [List.length_cons, List.length_nil]); omega) (by (try simp only [List.length_cons, List.length_nil]); omega) (fun a536 c537 w538 hs539 => ?_)
          have hs541 := St.f6 hs539
          have hs542 := St.f6 hs541
          have hs543 := St.f6 hs542
          have hs544 := St.f6 hs543
          have hs545 := St.f6 hs544
          have hs546 := St.f6 hs545
          have hs547 := St.tk6 hs546
          refine ops_done (by kernel_rfl) ⟨hs547, ?_⟩
          refine any_val (v := (.slice a536 (((q43.take p87.toNat) ++ ((q43.drop ((p87 + 1).toNat)).take (q43.length - ((p87 + 1).toNat)))).length) c537)) (v' := (.slice a536 (((q43.take p87.toNat) ++ ((q43.drop ((p87 + 1).toNat)).take (q43.length - ((p87 + 1).toNat)))).length) c537)) 10 (by kernel_rfl) (fun _ => by kernel_rfl) rfl hs547 ?_
          refine any_done (by kernel_rfl) ?_
          refine hK503 _ _ ?_
          have hs548 := hs539.drew
          refine W.regionD [(0, 0), (0, 0), (0, 0), (6, 6), (9, 9), (0, 0), (0, 0), (64, 64), (160, 160), (272, 272), (1023, 546)] (fun w_ => St B w [] w_ [kStr.row a536 c537 ((q43.take p87.toNat) ++ ((q43.drop ((p87 + 1).toNat)).take (q43.length - ((p87 + 1).toNat)))), viewA (ptr b63) q40 r492.2, blk b24 (.cells [(.int .i64 1), (.int .i64 (2 + (19 : Int) % 20)), (.int .i64 (2 + b_ % 60))].toArray 31 (0, 0)), kStr.row m41 m42 q43, kInt.row m44 m45 q46, blk b75 (.cells [(.string ((ss.getD p48.toNat dSt15).c2)), (.int .i64 (1 + ((mx ((ss.getD p48.toNat dSt15).c3) 0).tmod ((2 + (19 : Int) % 20) - 1))))].toArray 33 (0, 0)), kU64.row m38 m39 q40]) (by kernel_rfl) hs548 ?_
          refine any_val (v := (.slice m44 n47 m45)) (v' := (.slice m44 n47 m45)) 1 (by kernel_rfl) (fun _ => by kernel_rfl) rfl hs548 ?_
          refine any_val (v := (.int .i64 p87)) (v' := (.int .i64 p87)) 2 (by kernel_rfl) (fun _ => by kernel_rfl) rfl hs548 ?_
          obtain ⟨h549, hm⟩ := need_some hm
          have hc550 := St.kcap kInt hs548 4 rfl
          obtain ⟨h551, hm⟩ := need_some hm
          rw [← h551] at hc550
          refine any_R 3 (by kernel_rfl) (fun _ hS_ => runs_prefixL (a := m44) (n := n47) (c := m45) (z := p87) (size := 1) p87.toNat (q46.take p87.toNat).length (le_take_len (by omega)) (nat_of h549.1) (le_toNat h549) hc550 (by kernel_rfl)) hs548 ?_
          refine any_val (v := (.slice m44 n47 m45)) (v' := (.slice m44 n47 m45)) 5 (by kernel_rfl) (fun _ => by kernel_rfl) rfl hs548 ?_
          refine any_val (v := (.int .i64 p87)) (v' := (.int .i64 p87)) 6 (by kernel_rfl) (fun _ => by kernel_rfl) rfl hs548 ?_
          obtain ⟨h552, hm⟩ := need_some hm
          refine any_val (v := .int .i64 (IntKind.i64.wrap (p87 + 1))) (v' := .int .i64 (p87 + 1)) 7 (by kernel_rfl) (fun _ => by kernel_rfl) (congrArg (Value.int .i64) (wrap_i64 h552.1 h552.2)) hs548 ?_
          obtain ⟨h553, hm⟩ := need_some hm
          obtain ⟨h554, hm⟩ := need_some hm
          have h555 : (p87 + 1).toNat ≤ q46.length := by omega
          have h556 : q46.length ≤ q46.length := Nat.le_refl _
          have h557 : q46.length ≤ m45 := (St.kcap kInt hs548 4 rfl)
          refine any_R 8 (by kernel_rfl) (fun _ hS_ => runs_from (a := m44) (n := n47) (c := m45) (lo := (p87 + 1)) (size := 1) ((p87 + 1).toNat) ((q46.drop ((p87 + 1).toNat)).take (q46.length - ((p87 + 1).toNat))).length (nat_of h554.1) (by rw [h553]; exact h555) (by rw [h553]; exact h557) (by rw [h553]; exact (part_len h555 h556)) (by kernel_rfl)) hs548 ?_
          refine any_step 0 (by kernel_rfl) (by kernel_rfl) ?_
          refine ops_new (fun b => .slice (some ⟨b, 0, none⟩) 0 0) (.cells [].toArray 3 (0, 0)) hs548 (by kernel_rfl) (fun b560 w558 hs559 => ?_)
          have hs561 := St.f7 hs559
          have hs562 := St.f7 hs561
          have hs563 := St.f7 hs562
          have hs564 := St.f7 hs563
          have hs565 := St.f7 hs564
          have hs566 := St.f7 hs565
          have hs567 := St.f7 hs566
          have hs568 := St.tk7 hs567
          refine ops_done (by kernel_rfl) ⟨hs568, ?_⟩
          refine any_step 4 (by kernel_rfl) (by kernel_rfl) ?_
          have hs569 : St B w [] w558 [kInt.row (some ⟨b560, 0, none⟩) 0 ([]), kStr.row a536 c537 ((q43.take p87.toNat) ++ ((q43.drop ((p87 + 1).toNat)).take (q43.length - ((p87 + 1).toNat)))), viewA (ptr b63) q40 r492.2, blk b24 (.cells [(.int .i64 1), (.int .i64 (2 + (19 : Int) % 20)), (.int .i64 (2 + b_ % 60))].toArray 31 (0, 0)), kStr.row m41 m42 q43, kInt.row m44 m45 q46, blk b75 (.cells [(.string ((ss.getD p48.toNat dSt15).c2)), (.int .i64 (1 + ((mx ((ss.getD p48.toNat dSt15).c3) 0).tmod ((2 + (19 : Int) % 20) - 1))))].toArray 33 (0, 0)), kU64.row m38 m39 q40] := St.kblk kInt [] hs559 rfl rfl (by simp only [List.length_cons, List.length_nil]; decide)
          obtain ⟨h574, hm⟩ := need_some hm
          refine ops_appendK kInt (bytes := 8) (a' := m44) (c' := m45) (l := []) (m := (q46.take p87.toNat)) hs569 (by kernel_rfl) (St.capnil kInt hs569 5 rfl) (cells_take kInt p87.toNat (St.kcells kInt hs569 5 rfl)) (by (unfold maxLen; try simp) <;> omega) (by (try simp) <;> omega) (fun a570 c571 w572 hs573 => ?_)
          have hs575 : St B w [] w572 [kInt.row a570 c571 (q46.take p87.toNat), kStr.row a536 c537 ((q43.take p87.toNat) ++ ((q43.drop ((p87 + 1).toNat)).take (q43.length - ((p87 + 1).toNat)))), viewA (ptr b63) q40 r492.2, blk b24 (.cells [(.int .i64 1), (.int .i64 (2 + (19 : Int) % 20)), (.int .i64 (2 + b_ % 60))].toArray 31 (0, 0)), kStr.row m41 m42 q43, kInt.row m44 m45 q46, blk b75 (.cells [(.string ((ss.getD p48.toNat dSt15).c2)), (.int .i64 (1 + ((mx ((ss.getD p48.toNat dSt15).c3) 0).tmod ((2 + (19 : Int) % 20) - 1))))].toArray 33 (0, 0)), kU64.row m38 m39 q40] := hs573
          have hs576 := St.f7 hs575
          have hs577 := St.f7 hs576
          have hs578 := St.f7 hs577
          have hs579 := St.f7 hs578
          have hs580 := St.f7 hs579
          have hs581 := St.f7 hs580
          have hs582 := St.f7 hs581
          have hs583 := St.tk7 hs582
          refine ops_done (by kernel_rfl) ⟨hs583, ?_⟩
          refine any_step 9 (by kernel_rfl) (by kernel_rfl) ?_
          obtain ⟨h588, hm⟩ := need_some hm
          refine ops_appendK kInt (bytes := 8) (a' := (partA m44 m45 ((p87 + 1).toNat) 1)) (c' := (m45 - ((p87 + 1).toNat))) (l := (q46.take p87.toNat)) (m := ((q46.drop ((p87 + 1).toNat)).take (q46.length - ((p87 + 1).toNat)))) hs575 (by kernel_rfl) (part_nil (St.capnil kInt hs575 5 rfl)) (part_cells kInt (St.kcells kInt hs575 5 rfl) h555 h556 h557) (by unfold maxLen; (try simp only [List.length_cons, List.length_nil]); omega) (by (try simp only [List.length_cons, List.length_nil]); omega) (fun a584 c585 w586 hs587 => ?_)
          have hs589 := St.f7 hs587
          have hs590 := St.f7 hs589
          have hs591 := St.f7 hs590
          have hs592 := St.f7 hs591
          have hs593 := St.f7 hs592
          have hs594 := St.f7 hs593
          have hs595 := St.f7 hs594
          have hs596 := St.tk7 hs595
          refine ops_done (by kernel_rfl) ⟨hs596, ?_⟩
          refine any_val (v := (.slice a584 (((q46.take p87.toNat) ++ ((q46.drop ((p87 + 1).toNat)).take (q46.length - ((p87 + 1).toNat)))).length) c585)) (v' := (.slice a584 (((q46.take p87.toNat) ++ ((q46.drop ((p87 + 1).toNat)).take (q46.length - ((p87 + 1).toNat)))).length) c585)) 10 (by kernel_rfl) (fun _ => by kernel_rfl) rfl hs596 ?_
          refine any_done (by kernel_rfl) ?_
          refine normal_block ?_
          have hs597 := St.f7 hs587
          have hs598 := St.f7 hs597
          have hs599 := St.f4 hs598
          have hs600 := St.f3 hs599
          have hs601 := St.f4 hs600
          have hs602 := St.f5 hs601
          have hs603 := St.tk6 hs602
          exact ⟨((q43.take p87.toNat) ++ ((q43.drop ((p87 + 1).toNat)).take (q43.length - ((p87 + 1).toNat)))), ((q46.take p87.toNat) ++ ((q46.drop ((p87 + 1).toNat)).take (q46.length - ((p87 + 1).toNat)))), (((q46.take p87.toNat) ++ ((q46.drop ((p87 + 1).toNat)).take (q46.length - ((p87 + 1).toNat)))).length), r492.2, r492.1, a536, c537, a584, c585, slots_intro _ (by kernel_rfl), hs603, hm⟩
         ·
          obtain ⟨h502p, hm⟩ := iN hm h502
          refine W.skip ?_
          refine normal_block ?_
          have hs604 := St.f5 hs497
          have hs605 := St.f5 hs604
          have hs606 := St.f2 hs605
          have hs607 := St.f5 hs606
          have hs608 := St.f5 hs607
          have hs609 := St.f5 hs608
          exact ⟨q43, q46, n47, r492.2, r492.1, m41, m42, m44, m45, slots_intro _ (by kernel_rfl), hs609, hm⟩
        ·
         have h500p : ¬ ((r492.1 = 0) ↔ (p87 ≥ 0)) := beq_no decide_eq_true_iff decide_eq_true_iff (bnot_true h500)
         replace hm := ite_no hm h500p
         refine W.sr fun K610 hK610 => ?_
         refine zE 1 (hK610 _ _ ?_)
         refine W.ret (ret_seq (ret_block (ret_seq (ret_block (ret_seq (ret_seq (ret_block (ret_seq ?_))))))))
         have hs611 := St.tk0 hs497
         refine ret_of (.bool false) (by kernel_rfl) ⟨_, ⟨congrArg Value.bool (some_inj hm), rfl⟩, hs611⟩
   ·
    refine W.sr fun K612 hK612 => ?_
    refine zE 1 (hK612 _ _ ?_)
    refine W.block ?_
    have hs619 := St.f3 hs85
    have hs620 := St.f1 hs619
    have hs621 := St.f2 hs620
    have hs622 := St.f5 hs621
    have hs623 := St.f5 hs622
    have hs624 := St.f5 hs623
    refine W.loop_iter (G := Int × Int) (σ := Int × Int) (fun | (p613, p614) => (p613, p614)) (fun | (p613, p614), s_, w_ => (∃ us, s_ = slots 288 [(1, (.slice sa ss.length sc)), (5, (.pointer (some ⟨b24, 0, none⟩))), (7, (.slice m41 q43.length m42)), (8, (.slice m44 n47 m45)), (9, (.int .i64 p48)), (10, (.pointer (some ⟨b63, 0, none⟩))), (11, (.pointer (some ⟨b75, 0, none⟩))), (12, (.int .i64 p613)), (13, (.int .i64 p614))] us) ∧ St B w [] w_ [blk b24 (.cells [(.int .i64 1), (.int .i64 (2 + (19 : Int) % 20)), (.int .i64 (2 + b_ % 60))].toArray 31 (0, 0)), kStr.row m41 m42 q43, kInt.row m44 m45 q46, viewA (ptr b63) q40 ([]), blk b75 (.cells [(.string ((ss.getD p48.toNat dSt15).c2)), (.int .i64 (1 + ((mx ((ss.getD p48.toNat dSt15).c3) 0).tmod ((2 + (19 : Int) % 20) - 1))))].toArray 33 (0, 0)), kU64.row m38 m39 q40]) ((-1), 0) ⟨slots_intro _ (by kernel_rfl), hs624⟩ hm ?_
    rintro k615 ih616 ⟨p613, p614⟩ _ w617 ⟨⟨us, rfl⟩, hs618⟩ hm
    replace hm : entrytable_B1 b_ ss k49 q40 q43 q46 n47 p48 k615 p613 p614 = some true := hm
    unfold entrytable_B1 at hm
    refine W.seq fun K625 hK625 => ?_
    refine W.sr fun K626 hK626 => ?_
    refine zE 4 (hK626 _ _ ?_)
    refine W.cond (decide (p614 < (q43.length : Int))) (by kernel_rfl) (fun h627 => ?_) (fun h627 => ?_)
    ·
     obtain ⟨h627p, hm⟩ := iY hm h627
     refine W.skip ?_
     refine hK625 _ _ ?_
     refine W.seq fun K628 hK628 => ?_
     refine W.block ?_
     refine W.seq fun K629 hK629 => ?_
     have hs630 := hs618.drew
     refine W.regionD [(0, 0), (0, 0), (3, 3), (4, 4), (0, 0), (16, 16), (40, 40)] (fun w_ => St B w [] w_ [blk b24 (.cells [(.int .i64 1), (.int .i64 (2 + (19 : Int) % 20)), (.int .i64 (2 + b_ % 60))].toArray 31 (0, 0)), kStr.row m41 m42 q43, kInt.row m44 m45 q46, viewA (ptr b63) q40 ([]), blk b75 (.cells [(.string ((ss.getD p48.toNat dSt15).c2)), (.int .i64 (1 + ((mx ((ss.getD p48.toNat dSt15).c3) 0).tmod ((2 + (19 : Int) % 20) - 1))))].toArray 33 (0, 0)), kU64.row m38 m39 q40]) (by kernel_rfl) hs630 ?_
     refine any_val (v := (.slice m41 q43.length m42)) (v' := (.slice m41 q43.length m42)) 0 (by kernel_rfl) (fun _ => by kernel_rfl) rfl hs630 ?_
     refine any_val (v := (.int .i64 p614)) (v' := (.int .i64 p614)) 1 (by kernel_rfl) (fun _ => by kernel_rfl) rfl hs630 ?_
     obtain ⟨h632, hm⟩ := need_some hm
     have hk631 := lt_toNat h632
     refine any_R 2 (by kernel_rfl) (fun _ hS_ => runs_index (a := m41) (n := q43.length) (z := p614) (size := 1) p614.toNat (nat_of h632.1) hk631 (kStr.addr (St.kcells kStr hs630 1 rfl) hk631) (by kernel_rfl)) hs630 ?_
     refine any_R 3 (by kernel_rfl) (fun _ hS_ => runs_load (ad := ((adr m41 (p614.toNat * 1)).add 0)) (v := (.string (q43.getD p614.toNat ByteArray.empty))) (by kernel_rfl) (kStr.at (St.kcells kStr hS_ 1 rfl) hk631 ByteArray.empty 0 rfl)) hs630 ?_
     refine any_val (v := (.pointer (some ⟨b75, 0, none⟩))) (v' := (.pointer (some ⟨b75, 0, none⟩))) 4 (by kernel_rfl) (fun _ => by kernel_rfl) rfl hs630 ?_
     refine any_R 5 (by kernel_rfl) (fun _ hS_ => runs_load (ad := ⟨b75, 0, none⟩) (v := (.string ((ss.getD p48.toNat dSt15).c2))) (by kernel_rfl) (hS_.cellAt 4 rfl rfl)) hs630 ?_
     refine any_val (v := (.bool ((q43.getD p614.toNat ByteArray.empty).toList == ((ss.getD p48.toNat dSt15).c2).toList))) (v' := (.bool ((q43.getD p614.toNat ByteArray.empty).toList == ((ss.getD p48.toNat dSt15).c2).toList))) 6 (by kernel_rfl) (fun _ => by kernel_rfl) rfl hs630 ?_
     refine any_done (by kernel_rfl) ?_
     refine hK629 _ _ ?_
     refine W.cond ((q43.getD p614.toNat ByteArray.empty).toList == ((ss.getD p48.toNat dSt15).c2).toList) (by kernel_rfl) (fun h633 => ?_) (fun h633 => ?_)
     ·
      have h633p : ((q43.getD p614.toNat ByteArray.empty).toList == ((ss.getD p48.toNat dSt15).c2).toList) = true := h633
      replace hm := ite_yes hm h633p
      refine W.region ?_
      refine zE 2 ?_
      refine normal_block ?_
      refine hK628 _ _ ?_
      refine W.region ?_
      refine zR 1 ?_
      obtain ⟨h634, hm⟩ := need_some hm
      refine zI _ (wrap_i64 h634.1 h634.2) ?_
      refine zE 1 ?_
      refine loopAt_next ?_
      exact ih616 (p614, (p614 + 1)) _ _ ⟨slots_intro _ (by kernel_rfl), hs630⟩ hm
     ·
      have h633p : ¬ (((q43.getD p614.toNat ByteArray.empty).toList == ((ss.getD p48.toNat dSt15).c2).toList) = true) := ne_true_of_eq_false h633
      replace hm := ite_no hm h633p
      refine W.skip ?_
      refine normal_block ?_
      refine hK628 _ _ ?_
      refine W.region ?_
      refine zR 1 ?_
      obtain ⟨h635, hm⟩ := need_some hm
      refine zI _ (wrap_i64 h635.1 h635.2) ?_
      refine zE 1 ?_
      refine loopAt_next ?_
      exact ih616 (p613, (p614 + 1)) _ _ ⟨slots_intro _ (by kernel_rfl), hs630⟩ hm
    ·
     obtain ⟨h627p, hm⟩ := iN hm h627
     refine W.exit (exit_seq (exit_seq (exit_here ?_)))
     exact ⟨p613, slots_intro _ (by kernel_rfl), hs618, hm⟩
  ·
   obtain ⟨h60p, hm⟩ := iN hm h60
   refine W.exit (exit_seq (exit_seq (exit_here ?_)))
   refine hK36 _ _ ?_
   refine W.sr fun K636 hK636 => ?_
   obtain ⟨r637, h638, hm⟩ := bind_some hm
   refine zC00 hs52 (works15_walk (hG := hG) (hT := (hs52.oldCells hT)) (hm := h638) B _) fun w639 hs641 => ?_
   refine zE 1 (hK636 _ _ ?_)
   refine W.ret ?_
   have hs642 := St.tk0 hs641
   refine ret_of (.bool r637) (by kernel_rfl) ⟨_, ⟨congrArg Value.bool (some_inj hm), rfl⟩, hs642⟩

end Go.Proofs.YtmmclabkkigiaaaGreatDoor

namespace Go.Proofs.YtmmclabkkigiaaaGreatDoor
open Go Go.RowKit
set_option linter.unusedVariables false
set_option linter.unusedSimpArgs false
theorem drop_rest {α : Type} (l : List α) (k : Nat) : (l.drop k).take (l.length - k) = l.drop k := List.take_of_length_le (by rw [List.length_drop]; omega)
section
variable {gb b_ : Int} {ss : List TSt15} {k49 : ((List Int) × (List ByteArray) × (List Int) × Nat × Int) → Option Bool} {q : List Int} {p : Int} {l : List (Int × Int)} {c : Int} {f : Nat → Int} {E : Nat → ByteArray} {V : Nat → Int} {ps : List Nat} {xs : List ByteArray} {ns : List Int} {n : Nat}
theorem et_J4 (hgb : gb = 2 + b_ % 60) (hp : 0 ≤ p ∧ p ≤ 40) (ih : ∀ (q' : List Int) (f : Nat → Int) (c : Int) (E : Nat → ByteArray) (V : Nat → Int) (ps : List Nat) (xs : List ByteArray) (ns : List Int) (n : Nat), Dir 21 gb q' [] f c E V → Tab f E V ps xs ns → n = ns.length → Ok (· = true) (k49 (q', xs, ns, n, p + 1)))
    (h : Dir 21 gb q l f c E V) (t : Tab f E V ps xs ns) (hn : n = ns.length) : Ok (· = true) (entrytable_J4 b_ k49 q p xs ns n l) := by
  have hx := t.xlen
  have hnl := t.nlen
  have hl := t.len
  have hel := entL_len f E V 12
  have hle := listF_le f 12
  unfold entrytable_J4
  rw [show (2 : Int) + 19 % 20 = 21 by omega, ← hgb]
  refine Ok.got15 h.eList (Ok.yes rfl (Ok.yes (by simp only; omega) ?_))
  refine Ok.iter (fun i : Int => 0 ≤ i ∧ i ≤ (xs.length : Int)) (fun i => ((xs.length : Int) - i).toNat) ?_ _ _ ⟨by omega, by omega⟩ (fuel_lt (by omega))
  intro k2 i hi ih2
  unfold entrytable_B2
  rw [show (2 : Int) + 19 % 20 = 21 by omega, ← hgb]
  refine Ok.ite (fun hlt => Ok.need (by omega) ?_) fun _ => ?_
  · have hi2 : i.toNat < ps.length := by omega
    obtain ⟨pl, hpl⟩ : ∃ pl, ps[i.toNat] = pl := ⟨_, rfl⟩
    obtain ⟨p1, p2⟩ := t.used hi2 hpl
    have hf := t.found h hi2 hpl
    rw [t.xat hi2 hpl]
    refine Ok.got15 ((h.eFind _).trans hf) ?_
    unfold entrytable_J7
    exact Ok.yes rfl (Ok.need (by omega) (Ok.need (by omega) (Ok.yes (t.nat hi2 hpl).symm (Ok.no (by simp only; omega) (Ok.no (by simp only; omega) (Ok.need (by omega) (ih2 _ (by omega) (by omega))))))))
  · unfold entrytable_J5
    have hfl := h.flat
    have hw := hfl.mp.dk.words
    rw [show (2 : Int) + 19 % 20 = 21 by omega, ← hgb]
    exact Ok.name fun r hr => Ok.yes (by rw [hr]; exact hw.symm) (Ok.need (by omega) (ih _ f c E V ps xs ns n hfl t hn))
theorem et_J3 (hgb : gb = 2 + b_ % 60) (hp : 0 ≤ p ∧ p ≤ 40) (ih : ∀ (q' : List Int) (f : Nat → Int) (c : Int) (E : Nat → ByteArray) (V : Nat → Int) (ps : List Nat) (xs : List ByteArray) (ns : List Int) (n : Nat), Dir 21 gb q' [] f c E V → Tab f E V ps xs ns → n = ns.length → Ok (· = true) (k49 (q', xs, ns, n, p + 1)))
    (h : Dir 21 gb q l f c E V) (t : Tab f E V ps xs ns) (hn : n = ns.length) {b : Bool} {e : Int} (he : e = 0 ∨ (l = [] ∧ (e = 13 ↔ ¬ (b = true)))) : Ok (· = true) (entrytable_J3 b_ k49 q p b xs ns n l e) := by
  unfold entrytable_J3
  refine Ok.ite (fun _ => et_J4 hgb hp ih h t hn) fun h0 => ?_
  rcases he with e0 | ⟨rfl, h13⟩
  · exact absurd e0 h0
  exact Ok.no (by simp) (Ok.yes h13 (et_J4 hgb hp ih h t hn))
theorem et_J2 (hgb : gb = 2 + b_ % 60) (hp : 0 ≤ p ∧ p < 40 ∧ p < (ss.length : Int)) (ih : ∀ (q' : List Int) (f : Nat → Int) (c : Int) (E : Nat → ByteArray) (V : Nat → Int) (ps : List Nat) (xs : List ByteArray) (ns : List Int) (n : Nat), Dir 21 gb q' [] f c E V → Tab f E V ps xs ns → n = ns.length → Ok (· = true) (k49 (q', xs, ns, n, p + 1)))
    (h : Dir 21 gb q [] f c E V) (t : Tab f E V ps xs ns) (hn : n = ns.length) {at_ : Int} (ha : (at_ = -1 ∧ ∀ j : Nat, j < xs.length → xs.getD j ByteArray.empty ≠ (ss.getD p.toNat dSt15).c2) ∨ (0 ≤ at_ ∧ at_ < (xs.length : Int) ∧ xs.getD at_.toNat ByteArray.empty = (ss.getD p.toNat dSt15).c2)) :
    Ok (· = true) (entrytable_J2 b_ ss k49 q xs ns n p at_) := by
  have hx := t.xlen
  have hnl := t.nlen
  have hl := t.len
  have hle := listF_le f 12
  unfold entrytable_J2
  unfold entrytable_J8
  have hxi : 1 ≤ 1 + (mx ((ss.getD p.toNat dSt15).c3) 0).tmod (21 - 1) ∧ 1 + (mx ((ss.getD p.toNat dSt15).c3) 0).tmod (21 - 1) < 21 := by
    have hm : 0 ≤ mx ((ss.getD p.toNat dSt15).c3) 0 := by unfold mx; split <;> omega
    rw [Int.tmod_eq_emod_of_nonneg hm]
    omega
  rw [show (2 : Int) + 19 % 20 = 21 by omega, ← hgb]
  generalize (ss.getD p.toNat dSt15).c2 = tx at *
  generalize 1 + (mx ((ss.getD p.toNat dSt15).c3) 0).tmod (21 - 1) = xi at *
  have hp40 : 0 ≤ p ∧ p ≤ 40 := by omega
  refine Ok.got15 (emay_eq tx) (Ok.need (by omega) ?_)
  have bad13 : mayB tx = false → ((13 : Int) = 13 ↔ ¬ (mayB tx = true)) := fun q => ⟨fun _ => by rw [q]; decide, fun _ => rfl⟩
  have okNe : ∀ e : Int, e ≠ 13 → mayB tx = true → (e = 13 ↔ ¬ (mayB tx = true)) := fun e q1 q2 => ⟨fun q3 => absurd q3 q1, fun q3 => absurd q2 q3⟩
  have hk := t.look h tx ha
  refine Ok.ite (fun _ => ?_) fun _ => Ok.ite (fun _ => ?_) fun _ => Ok.ite (fun _ => ?_) fun _ => ?_
  · rcases hk with ⟨a1, a2, a3⟩ | ⟨a2, i, pl, hi, a1, a4, a5, a6, a7, a8, a3⟩ | ⟨a1, a2, a4, a3⟩
    · refine Ok.got15 ((h.eFind tx).trans a3) (Ok.yes ⟨fun q => absurd q (by decide), fun q => by omega⟩ (Ok.no (by decide) ?_))
      exact et_J3 hgb hp40 ih h t hn (.inr ⟨rfl, bad13 a2⟩)
    · refine Ok.got15 ((h.eFind tx).trans a3) (Ok.yes ⟨fun _ => by omega, fun _ => rfl⟩ (Ok.yes rfl (Ok.yes (toList_iff.2 rfl) (Ok.need (by omega) (Ok.need (by omega) (Ok.yes ?_ ?_))))))
      · rw [a1, Int.toNat_natCast]; exact a8.symm
      · exact et_J3 hgb hp40 ih h t hn (.inl rfl)
    · refine Ok.got15 ((h.eFind tx).trans a3) (Ok.yes ⟨fun q => absurd q (by decide), fun q => by omega⟩ (Ok.no (by decide) ?_))
      exact et_J3 hgb hp40 ih h t hn (.inr ⟨rfl, okNe 6 (by decide) a2⟩)
  · rcases hk with ⟨a1, a2, a3⟩ | ⟨a2, i, pl, hi, a1, a4, a5, a6, a7, a8, a3⟩ | ⟨a1, a2, a4, a3⟩
    · refine Ok.got15 (h.eAdd_bad a3 hxi) (Ok.yes ⟨fun q => absurd q (by decide), fun q => by omega⟩ (Ok.no (by decide) (Ok.no (by decide) (Ok.yes (bad13 a2) (Ok.no (by decide) ?_)))))
      exact et_J3 hgb hp40 ih h t hn (.inr ⟨rfl, bad13 a2⟩)
    · refine Ok.got15 (h.eAdd_yes a3 hxi) (Ok.yes ⟨fun _ => by omega, fun _ => rfl⟩ (Ok.no (by decide) (Ok.no (by decide) (Ok.yes (okNe 9 (by decide) a2) (Ok.no (by decide) ?_)))))
      exact et_J3 hgb hp40 ih h t hn (.inr ⟨rfl, okNe 9 (by decide) a2⟩)
    · rcases h.add (by simp) a2 hxi with ⟨pl, p1, p2, m, b, c', b1, b2, b3, b4⟩ | ⟨pl, p1, p2, p3, b1⟩ | ⟨p1, b1⟩
      · have t2 := t.add (xn := tx) (xi := xi) p1 p2 b3 a4
        have z9 : ¬ (0 : Int) = 9 := by decide
        have z16 : ¬ (0 : Int) = 16 := by decide
        have hl2 := t2.len
        have hle2 := listF_le (upd f pl b) 12
        rw [List.length_append, List.length_singleton] at hl2
        refine Ok.got15 (h.eAdd_none hxi a3 b1) (Ok.yes ⟨fun q => absurd q z9, fun q => by omega⟩ (Ok.no z16 (Ok.yes rfl (Ok.no (by omega) (Ok.yes (okNe 0 (by decide) a2) (Ok.yes rfl (Ok.need (by omega) (Ok.need (by omega) (Ok.need hn ?_)))))))))
        exact et_J3 hgb hp40 ih b2 t2 rfl (.inl rfl)
      · refine Ok.got15 (h.eAdd_none hxi a3 b1) (Ok.yes ⟨fun q => absurd q (by decide), fun q => by omega⟩ (Ok.no (by decide) (Ok.no (by decide) (Ok.yes (okNe 7 (by decide) a2) (Ok.no (by decide) ?_)))))
        exact et_J3 hgb hp40 ih h t hn (.inr ⟨rfl, okNe 7 (by decide) a2⟩)
      · have hall := listF_all (f := f) (k := 12) p1
        refine Ok.got15 (h.eAdd_none hxi a3 b1) (Ok.yes ⟨fun q => absurd q (by decide), fun q => by omega⟩ (Ok.yes rfl (Ok.yes (by omega) (Ok.no (by decide) (Ok.yes (okNe 16 (by decide) a2) (Ok.no (by decide) ?_))))))
        exact et_J3 hgb hp40 ih h t hn (.inr ⟨rfl, okNe 16 (by decide) a2⟩)
  · rcases hk with ⟨a1, a2, a3⟩ | ⟨a2, i, pl, hi, a1, a4, a5, a6, a7, a8, a3⟩ | ⟨a1, a2, a4, a3⟩
    · refine Ok.got15 (h.eChange_no (by decide) a3 hxi) (Ok.yes ⟨fun q => absurd q (by decide), fun q => by omega⟩ (Ok.no (by omega) ?_))
      exact et_J3 hgb hp40 ih h t hn (.inr ⟨rfl, bad13 a2⟩)
    · obtain ⟨m, b1, b2, b3⟩ := h.eChange (by simp) a5 a6 a3 hxi
      have t2 := t.set hi a4 xi
      refine Ok.got15 b1 (Ok.yes ⟨fun _ => by omega, fun _ => rfl⟩ (Ok.yes (by omega) (Ok.need (by omega) (Ok.need (by omega) ?_))))
      rw [a1, Int.toNat_natCast]
      exact et_J3 hgb hp40 ih b2 t2 (by rw [List.length_set]; exact hn) (.inl rfl)
    · refine Ok.got15 (h.eChange_no (by decide) a3 hxi) (Ok.yes ⟨fun q => absurd q (by decide), fun q => by omega⟩ (Ok.no (by omega) ?_))
      exact et_J3 hgb hp40 ih h t hn (.inr ⟨rfl, okNe 6 (by decide) a2⟩)
  · rcases hk with ⟨a1, a2, a3⟩ | ⟨a2, i, pl, hi, a1, a4, a5, a6, a7, a8, a3⟩ | ⟨a1, a2, a4, a3⟩
    · refine Ok.got15 (h.eRemove_no (by decide) a3) (Ok.yes ⟨fun q => absurd q (by decide), fun q => by omega⟩ (Ok.no (by omega) ?_))
      exact et_J3 hgb hp40 ih h t hn (.inr ⟨rfl, bad13 a2⟩)
    · obtain ⟨m, c', b1, b2, b3⟩ := h.eRemove (by simp) a5 a3
      have t2 := t.del hi a4
      refine Ok.got15 b1 (Ok.yes ⟨fun _ => by omega, fun _ => rfl⟩ (Ok.yes (by omega) (Ok.need (by omega) (Ok.need (by omega) (Ok.need (by omega) (Ok.need (by omega) (Ok.need (by simp only [List.length_take, List.length_drop]; omega) (Ok.need (by omega) (Ok.need hn (Ok.need (by omega) (Ok.need hn (Ok.need (by omega) (Ok.need (by omega) (Ok.need (by simp only [List.length_take, List.length_drop]; omega) ?_))))))))))))))
      rw [drop_rest, drop_rest, a1, show ((i : Int) + 1).toNat = i + 1 by omega, Int.toNat_natCast]
      exact et_J3 hgb hp40 ih b2 t2 rfl (.inl rfl)
    · refine Ok.got15 (h.eRemove_no (by decide) a3) (Ok.yes ⟨fun q => absurd q (by decide), fun q => by omega⟩ (Ok.no (by omega) ?_))
      exact et_J3 hgb hp40 ih h t hn (.inr ⟨rfl, okNe 6 (by decide) a2⟩)
end
theorem entrytable_law {b_ : Int} {ss : List TSt15} (hb : 0 ≤ b_ ∧ b_ ≤ 255) : entrytable_M b_ ss = some true := by
  refine Ok.true ?_
  obtain ⟨gb, hgb⟩ : ∃ gb, gb = 2 + b_ % 60 := ⟨_, rfl⟩
  have hM : May 1 21 gb := by unfold May; omega
  have hF : Dir 21 gb (fmtW 1 21 gb) [] (fun _ => 0) 0 (fun _ => ByteArray.empty) (fun _ => 0) := ⟨Mp.fmt hM, fun k hk h => absurd rfl h⟩
  unfold entrytable_M
  refine Ok.bind (great15_ok ss) fun g hg => ?_
  refine Ok.ite (fun _ => works15_stop) fun hg2 => ?_
  have hss : ss.length ≤ 40 := hg (by cases g with | true => exact absurd rfl hg2 | false => rfl)
  refine Ok.need (by omega) (Ok.need (by omega) ?_)
  rw [show (2 : Int) + 19 % 20 = 21 by omega, ← hgb]
  refine Ok.iter (fun s : List Int × List ByteArray × List Int × Nat × Int => (0 ≤ s.2.2.2.2 ∧ s.2.2.2.2 ≤ (ss.length : Int)) ∧ ∃ (f : Nat → Int) (c : Int) (E : Nat → ByteArray) (V : Nat → Int) (ps : List Nat), Dir 21 gb s.1 [] f c E V ∧ Tab f E V ps s.2.1 s.2.2.1 ∧ s.2.2.2.1 = s.2.2.1.length) (fun s => ((ss.length : Int) - s.2.2.2.2).toNat) ?_ _ _ ⟨⟨by simp, by simp⟩, _, _, _, _, _, hF, Tab.nil _ _, rfl⟩ (fuel_lt (by simp only; omega))
  rintro k ⟨q, xs, ns, n, p⟩ ⟨hp0, f, c, E, V, ps, h, t, hn⟩ ih
  simp only at hp0 h t hn ih
  have hql := h.mp.dk.len
  have hg := h.mp.dk.g
  show Ok _ (entrytable_B0 b_ ss k q xs ns n p)
  unfold entrytable_B0
  have hm : 0 ≤ mx ((ss.getD p.toNat dSt15).c3) 0 := by unfold mx; split <;> omega
  have hxi : (mx ((ss.getD p.toNat dSt15).c3) 0).tmod (2 + 19 % 20 - 1) = (mx ((ss.getD p.toNat dSt15).c3) 0) % 20 := Int.tmod_eq_emod_of_nonneg hm
  refine Ok.ite (fun hp => ?_) fun _ => works15_stop
  have hx := t.xlen
  have hle := listF_le f 12
  have hl := t.len
  refine Ok.need (by omega) (Ok.need (by omega) (Ok.need (by omega) (Ok.need (by omega) (Ok.need (by rw [hxi]; omega) ?_))))
  refine Ok.iter (fun s : Int × Int => (0 ≤ s.2 ∧ s.2 ≤ (xs.length : Int)) ∧ ((s.1 = -1 ∧ ∀ j : Nat, j < s.2.toNat → xs.getD j ByteArray.empty ≠ (ss.getD p.toNat dSt15).c2) ∨ (0 ≤ s.1 ∧ s.1 < (xs.length : Int) ∧ xs.getD s.1.toNat ByteArray.empty = (ss.getD p.toNat dSt15).c2))) (fun s => ((xs.length : Int) - s.2).toNat) ?_ _ _ ⟨⟨by simp, by simp⟩, .inl ⟨rfl, fun j hj => absurd hj (Nat.not_lt_zero _)⟩⟩ (fuel_lt (by simp only; omega))
  rintro k2 ⟨a, i⟩ ⟨hi, ha⟩ ih2
  simp only at hi ha ih2
  show Ok _ (entrytable_B1 b_ ss k q xs ns n p k2 a i)
  unfold entrytable_B1
  refine Ok.ite (fun hlt => Ok.need (by omega) (Ok.ite (fun he => ?_) fun he => ?_)) fun hge => ?_
  · exact Ok.need (by omega) (ih2 _ ⟨by simp only; omega, .inr ⟨by simp only; omega, by simp only; omega, toList_iff.1 he⟩⟩ (by simp only; omega))
  · refine Ok.need (by omega) (ih2 _ ⟨by simp only; omega, ?_⟩ (by simp only; omega))
    rcases ha with ⟨a1, a2⟩ | a1
    · refine .inl ⟨a1, fun j hj => ?_⟩
      simp only at hj
      by_cases ej : j = i.toNat
      · rw [ej]; exact fun e => he (toList_iff.2 e)
      · exact a2 j (by omega)
    · exact .inr a1
  · refine et_J2 hgb (by omega) (fun q' f c E V ps xs ns n h t hn => ih _ ⟨by simp only; omega, f, c, E, V, ps, h, t, hn⟩ (by simp only; omega)) h t hn ?_
    rcases ha with ⟨a1, a2⟩ | a1
    · exact .inl ⟨a1, fun j hj => a2 j (by omega)⟩
    · exact .inr a1
end Go.Proofs.YtmmclabkkigiaaaGreatDoor

namespace Go.Proofs.YtmmclabkkigiaaaGreatDoor
open Go.ChangeShapes Go.WideShapes Go.ChangeAt Go.RowKit Go.Deep

inductive Leaf where
  | int (k : IntKind)
  | bool

def LeafOk : Leaf → Value → Prop
  | .int k, v => ∃ z, v = .int k z ∧ (Lit.int k z).wf = true
  | .bool, v => ∃ b, v = .bool b

def LeavesOk : List Leaf → List Value → Prop
  | [], [] => True
  | k :: ks, v :: vs => LeafOk k v ∧ LeavesOk ks vs
  | _, _ => False

theorem LeavesOk.append : ∀ {ks ks' : List Leaf} {vs vs' : List Value}, LeavesOk ks vs → LeavesOk ks' vs' → LeavesOk (ks ++ ks') (vs ++ vs')
  | [], _, [], _, _, h => h
  | _ :: _, _, _ :: _, _, h, h' => ⟨h.1, LeavesOk.append h.2 h'⟩

def leavesF (P : Program) (lv : TypeId → Option (List Leaf)) : Nat → List Field → Option (List Leaf)
  | _, [] => some []
  | off, f :: fs => match lv f.type with
    | some l => if f.offset = off ∧ P.cellsOf f.type = l.length then (leavesF P lv (off + l.length) fs).map (l ++ ·) else none
    | none => none

def leaves (P : Program) : Nat → TypeId → Option (List Leaf)
  | 0, _ => none
  | m + 1, t => match P.underlying t with
    | some (.int k) => some [.int k]
    | some .bool => some [.bool]
    | some (.struct fs) => match leavesF P (leaves P m) 0 fs.toList with
      | some ks => if P.cellsOf t = ks.length then some ks else none
      | none => none
    | some (.array n e) => match leaves P m e with
      | some l => if P.cellsOf e = l.length ∧ P.cellsOf t = n * l.length then some ((List.replicate n l).flatten) else none
      | none => none
    | _ => none

section
variable {H : Type} {enc : TypeId × Value → H} {P : Program} {w : World} {base : Nat} {sp : Nat → Bool} {held : Bool}

theorem leavesF_ok {lv : TypeId → Option (List Leaf)} (hlv : ∀ (t : TypeId) (ks : List Leaf) (n : Nat) (cs : List Value) (y : DataW H × List MemPlace), lv t = some ks → DataW.trod enc P w base sp held n t cs = some y → LeavesOk ks cs) {cs : List Value} :
    ∀ (fs : List Field) (off : Nat) (ks : List Leaf), leavesF P lv off fs = some ks → (∀ (i : Nat) (f : Field), fs[i]? = some f → ∃ n y, DataW.trod enc P w base sp held n f.type ((cs.drop f.offset).take (P.cellsOf f.type)) = some y) →
      LeavesOk ks ((cs.drop off).take ks.length)
  | [], off, ks, h, _ => by
    simp only [leavesF, Option.some.injEq] at h
    subst h
    simp [LeavesOk]
  | f :: fs, off, ks, h, ht => by
    unfold leavesF at h
    split at h
    · rename_i l hl
      split at h
      · rename_i hc
        simp only [Option.map_eq_some_iff] at h
        obtain ⟨ks', hk', rfl⟩ := h
        obtain ⟨n, y, hy⟩ := ht 0 f rfl
        rw [hc.1, hc.2] at hy
        have h1 := hlv _ _ _ _ _ hl hy
        have h2 := leavesF_ok hlv fs (off + l.length) ks' hk' (fun i g hg => ht (i + 1) g (by simpa using hg))
        have e : (cs.drop off).take (l ++ ks').length = (cs.drop off).take l.length ++ (cs.drop (off + l.length)).take ks'.length := by
          rw [List.length_append, List.take_add, List.drop_drop]
        rw [e]
        exact h1.append h2
      · cases h
    · cases h

theorem leavesA_ok {l : List Leaf} {cs : List Value} : ∀ n : Nat, (∀ i, i < n → LeavesOk l ((cs.drop (i * l.length)).take l.length)) → LeavesOk ((List.replicate n l).flatten) (cs.take (n * l.length))
  | 0, _ => by simp [LeavesOk]
  | n + 1, h => by
    have h1 := leavesA_ok n (fun i hi => h i (by omega))
    have h2 := h n (by omega)
    have e1 : (List.replicate (n + 1) l).flatten = (List.replicate n l).flatten ++ l := by
      rw [List.replicate_succ', List.flatten_append]
      simp
    have e2 : cs.take ((n + 1) * l.length) = cs.take (n * l.length) ++ (cs.drop (n * l.length)).take l.length := by
      rw [Nat.add_mul, Nat.one_mul, List.take_add]
    rw [e1, e2]
    exact h1.append h2

theorem leaves_ok : ∀ (m : Nat) (t : TypeId) (ks : List Leaf) (n : Nat) (cs : List Value) (y : DataW H × List MemPlace), leaves P m t = some ks → DataW.trod enc P w base sp held n t cs = some y → LeavesOk ks cs
  | 0, t, ks, n, cs, y, h, _ => by simp [leaves] at h
  | m + 1, t, ks, n, cs, y, h, hy => by
    unfold leaves at h
    split at h
    · rename_i k hu
      cases h
      obtain ⟨z, rfl, _, hz⟩ := DataW.trod_int hu hy
      exact ⟨⟨z, rfl, hz⟩, trivial⟩
    · rename_i hu
      cases h
      cases n with
      | zero => simp [DataW.trod] at hy
      | succ n =>
        unfold DataW.trod at hy
        rw [hu] at hy
        split at hy <;> simp_all [LeavesOk, LeafOk]
    · rename_i fs hu
      split at h
      · rename_i ks' hks
        split at h
        · rename_i hc
          cases h
          obtain ⟨xs, n', rfl, _, hlen, hxl, hf⟩ := DataW.trod_struct hu hy
          have h1 := leavesF_ok (cs := cs) (leaves_ok m) fs.toList 0 _ hks (fun i f hi => by
            have hi' : fs[i]? = some f := by simpa using hi
            have := hf i f hi'
            have hil : i < xs.length := by rw [hxl]; exact (Array.getElem?_eq_some_iff.1 hi').1
            rw [List.getElem?_eq_getElem hil] at this
            exact ⟨_, _, this⟩)
          simpa [← hc, ← hlen] using h1
        · cases h
      · cases h
    · rename_i k e hu
      split at h
      · rename_i l hl
        split at h
        · rename_i hc
          cases h
          obtain ⟨xs, n', rfl, _, hlen, hxl, hf⟩ := DataW.trod_array hu hy
          have h1 := leavesA_ok (l := l) (cs := cs) k (fun i hi => by
            have := hf i hi
            have hil : i < xs.length := by rw [hxl]; exact hi
            rw [List.getElem?_eq_getElem hil, hc.1] at this
            exact leaves_ok m _ _ _ _ _ hl this)
          simpa [← hc.2, ← hlen] using h1
        · cases h
      · cases h
    · cases h

end
theorem leaves_cons {k : Leaf} {ks : List Leaf} : ∀ {cs : List Value}, LeavesOk (k :: ks) cs → ∃ v vs, cs = v :: vs ∧ LeafOk k v ∧ LeavesOk ks vs
  | v :: vs, h => ⟨v, vs, rfl, h.1, h.2⟩
  | [], h => h.elim
theorem leaves_nil : ∀ {cs : List Value}, LeavesOk [] cs → cs = []
  | [], _ => rfl
  | _ :: _, h => h.elim
end Go.Proofs.YtmmclabkkigiaaaGreatDoor

namespace Go.Proofs.YtmmclabkkigiaaaGreatDoor
namespace WithText
open Go.ChangeShapes Go.WideShapes Go.ChangeAt Go.RowKit Go.Deep

inductive Leaf where
  | int (k : IntKind)
  | bool
  | string

def LeafOk : Leaf → Value → Prop
  | .int k, v => ∃ z, v = .int k z ∧ (Lit.int k z).wf = true
  | .bool, v => ∃ b, v = .bool b
  | .string, v => ∃ b, v = .string b ∧ b.size ≤ maxLen

def LeavesOk : List Leaf → List Value → Prop
  | [], [] => True
  | k :: ks, v :: vs => LeafOk k v ∧ LeavesOk ks vs
  | _, _ => False

theorem LeavesOk.append : ∀ {ks ks' : List Leaf} {vs vs' : List Value}, LeavesOk ks vs → LeavesOk ks' vs' → LeavesOk (ks ++ ks') (vs ++ vs')
  | [], _, [], _, _, h => h
  | _ :: _, _, _ :: _, _, h, h' => ⟨h.1, LeavesOk.append h.2 h'⟩

def leavesF (P : Program) (lv : TypeId → Option (List Leaf)) : Nat → List Field → Option (List Leaf)
  | _, [] => some []
  | off, f :: fs => match lv f.type with
    | some l => if f.offset = off ∧ P.cellsOf f.type = l.length then (leavesF P lv (off + l.length) fs).map (l ++ ·) else none
    | none => none

def leaves (P : Program) : Nat → TypeId → Option (List Leaf)
  | 0, _ => none
  | m + 1, t => match P.underlying t with
    | some (.int k) => some [.int k]
    | some .bool => some [.bool]
    | some .string => some [.string]
    | some (.struct fs) => match leavesF P (leaves P m) 0 fs.toList with
      | some ks => if P.cellsOf t = ks.length then some ks else none
      | none => none
    | some (.array n e) => match leaves P m e with
      | some l => if P.cellsOf e = l.length ∧ P.cellsOf t = n * l.length then some ((List.replicate n l).flatten) else none
      | none => none
    | _ => none

section
variable {H : Type} {enc : TypeId × Value → H} {P : Program} {w : World} {base : Nat} {sp : Nat → Bool} {held : Bool}

theorem leavesF_ok {lv : TypeId → Option (List Leaf)} (hlv : ∀ (t : TypeId) (ks : List Leaf) (n : Nat) (cs : List Value) (y : DataW H × List MemPlace), lv t = some ks → DataW.trod enc P w base sp held n t cs = some y → LeavesOk ks cs) {cs : List Value} :
    ∀ (fs : List Field) (off : Nat) (ks : List Leaf), leavesF P lv off fs = some ks → (∀ (i : Nat) (f : Field), fs[i]? = some f → ∃ n y, DataW.trod enc P w base sp held n f.type ((cs.drop f.offset).take (P.cellsOf f.type)) = some y) →
      LeavesOk ks ((cs.drop off).take ks.length)
  | [], off, ks, h, _ => by
    simp only [leavesF, Option.some.injEq] at h
    subst h
    simp [LeavesOk]
  | f :: fs, off, ks, h, ht => by
    unfold leavesF at h
    split at h
    · rename_i l hl
      split at h
      · rename_i hc
        simp only [Option.map_eq_some_iff] at h
        obtain ⟨ks', hk', rfl⟩ := h
        obtain ⟨n, y, hy⟩ := ht 0 f rfl
        rw [hc.1, hc.2] at hy
        have h1 := hlv _ _ _ _ _ hl hy
        have h2 := leavesF_ok hlv fs (off + l.length) ks' hk' (fun i g hg => ht (i + 1) g (by simpa using hg))
        have e : (cs.drop off).take (l ++ ks').length = (cs.drop off).take l.length ++ (cs.drop (off + l.length)).take ks'.length := by
          rw [List.length_append, List.take_add, List.drop_drop]
        rw [e]
        exact h1.append h2
      · cases h
    · cases h

theorem leavesA_ok {l : List Leaf} {cs : List Value} : ∀ n : Nat, (∀ i, i < n → LeavesOk l ((cs.drop (i * l.length)).take l.length)) → LeavesOk ((List.replicate n l).flatten) (cs.take (n * l.length))
  | 0, _ => by simp [LeavesOk]
  | n + 1, h => by
    have h1 := leavesA_ok n (fun i hi => h i (by omega))
    have h2 := h n (by omega)
    have e1 : (List.replicate (n + 1) l).flatten = (List.replicate n l).flatten ++ l := by
      rw [List.replicate_succ', List.flatten_append]
      simp
    have e2 : cs.take ((n + 1) * l.length) = cs.take (n * l.length) ++ (cs.drop (n * l.length)).take l.length := by
      rw [Nat.add_mul, Nat.one_mul, List.take_add]
    rw [e1, e2]
    exact h1.append h2

theorem leaves_ok : ∀ (m : Nat) (t : TypeId) (ks : List Leaf) (n : Nat) (cs : List Value) (y : DataW H × List MemPlace), leaves P m t = some ks → DataW.trod enc P w base sp held n t cs = some y → LeavesOk ks cs
  | 0, t, ks, n, cs, y, h, _ => by simp [leaves] at h
  | m + 1, t, ks, n, cs, y, h, hy => by
    unfold leaves at h
    split at h
    · rename_i k hu
      cases h
      obtain ⟨z, rfl, _, hz⟩ := DataW.trod_int hu hy
      exact ⟨⟨z, rfl, hz⟩, trivial⟩
    · rename_i hu
      cases h
      cases n with
      | zero => simp [DataW.trod] at hy
      | succ n =>
        unfold DataW.trod at hy
        rw [hu] at hy
        split at hy <;> simp_all [LeavesOk, LeafOk]
    · rename_i hu
      cases h
      obtain ⟨b, rfl, _, hz⟩ := DataW.trod_string hu hy
      exact ⟨⟨b, rfl, hz⟩, trivial⟩
    · rename_i fs hu
      split at h
      · rename_i ks' hks
        split at h
        · rename_i hc
          cases h
          obtain ⟨xs, n', rfl, _, hlen, hxl, hf⟩ := DataW.trod_struct hu hy
          have h1 := leavesF_ok (cs := cs) (leaves_ok m) fs.toList 0 _ hks (fun i f hi => by
            have hi' : fs[i]? = some f := by simpa using hi
            have := hf i f hi'
            have hil : i < xs.length := by rw [hxl]; exact (Array.getElem?_eq_some_iff.1 hi').1
            rw [List.getElem?_eq_getElem hil] at this
            exact ⟨_, _, this⟩)
          simpa [← hc, ← hlen] using h1
        · cases h
      · cases h
    · rename_i k e hu
      split at h
      · rename_i l hl
        split at h
        · rename_i hc
          cases h
          obtain ⟨xs, n', rfl, _, hlen, hxl, hf⟩ := DataW.trod_array hu hy
          have h1 := leavesA_ok (l := l) (cs := cs) k (fun i hi => by
            have := hf i hi
            have hil : i < xs.length := by rw [hxl]; exact hi
            rw [List.getElem?_eq_getElem hil, hc.1] at this
            exact leaves_ok m _ _ _ _ _ hl this)
          simpa [← hc.2, ← hlen] using h1
        · cases h
      · cases h
    · cases h

end
theorem leaves_cons {k : Leaf} {ks : List Leaf} : ∀ {cs : List Value}, LeavesOk (k :: ks) cs → ∃ v vs, cs = v :: vs ∧ LeafOk k v ∧ LeavesOk ks vs
  | v :: vs, h => ⟨v, vs, rfl, h.1, h.2⟩
  | [], h => h.elim
theorem leaves_nil : ∀ {cs : List Value}, LeavesOk [] cs → cs = []
  | [], _ => rfl
  | _ :: _, h => h.elim
end WithText
end Go.Proofs.YtmmclabkkigiaaaGreatDoor

namespace Go.Proofs.YtmmclabkkigiaaaGreatDoor
open Go.ChangeShapes Go.WideShapes Go.ChangeAt Go.RowKit Go.Deep
set_option linter.unusedVariables false

theorem leaf_St15 (cs0 : List Value) (e0 : WithText.LeavesOk [.int .u8, .int .i64, .string, .int .i64, .bool] cs0) : ∃ x, cs0 = kSt15.elem x ∧ good_St15 x := by
  obtain ⟨_, cs1, rfl, ⟨z0, rfl, b0⟩, e1⟩ := WithText.leaves_cons e0
  obtain ⟨_, cs2, rfl, ⟨z1, rfl, b1⟩, e2⟩ := WithText.leaves_cons e1
  obtain ⟨_, cs3, rfl, ⟨z2, rfl, _⟩, e3⟩ := WithText.leaves_cons e2
  obtain ⟨_, cs4, rfl, ⟨z3, rfl, b3⟩, e4⟩ := WithText.leaves_cons e3
  obtain ⟨_, cs5, rfl, ⟨z4, rfl⟩, e5⟩ := WithText.leaves_cons e4
  obtain rfl := WithText.leaves_nil e5
  simp [Lit.wf, IntKind.min, IntKind.max, IntKind.signed, IntKind.bits] at b0 b1 b3
  refine ⟨⟨z0, z1, z2, z3, z4⟩, rfl, ?_⟩
  simp only [good_St15]
  omega
theorem read_St15 {H : Type} {enc : TypeId × Value → H} {w : World} {base : Nat} {sp : Nat → Bool} (n : Nat) (cs : List Value) (y : DataW H × List MemPlace) (_ : cs.length = kSt15.size) (h : DataW.trod enc Tryz.prog w base sp true n kSt15.e cs = some y) :
    ∃ x, cs = kSt15.elem x ∧ good_St15 x := leaf_St15 cs (WithText.leaves_ok (P := Tryz.prog) 6 kSt15.e [.int .u8, .int .i64, .string, .int .i64, .bool] _ _ _ (by kernel_rfl) h)

end Go.Proofs.YtmmclabkkigiaaaGreatDoor

namespace Go.Proofs.YtmmclabkkigiaaaGreatDoor
open Go
set_option maxRecDepth 100000 in
theorem seat_make : (Tryz.prog.make == some Rows.entryNamesRow.make) = true := by kernel_rfl
end Go.Proofs.YtmmclabkkigiaaaGreatDoor

namespace Go.Proofs.YtmmclabkkigiaaaGreatDoor
open Go
set_option maxRecDepth 100000 in
theorem seat_lifted : (Rows.entryNamesRow.lifted == Tryz.prog.liftsFinal) = true := by kernel_rfl
end Go.Proofs.YtmmclabkkigiaaaGreatDoor

namespace Go.Proofs.YtmmclabkkigiaaaGreatDoor
open Go
set_option maxRecDepth 100000 in
theorem seat_enter : Tryz.prog.mayEnter = true := by kernel_rfl
end Go.Proofs.YtmmclabkkigiaaaGreatDoor

namespace Go.Proofs.YtmmclabkkigiaaaGreatDoor
open Go Go.RowKit
set_option linter.unusedSimpArgs false
set_option linter.unusedVariables false

set_option maxRecDepth 100000 in
theorem seat_main : Tryz.prog.mainIs = some (true, "056a9ebd9aeee0e6afff036bdceb98945e1f9728f64ef0347502c2b89040cba7".toList) := by kernel_rfl
end Go.Proofs.YtmmclabkkigiaaaGreatDoor

namespace Go.Proofs.YtmmclabkkigiaaaGreatDoor
open Go Go.RowKit
set_option linter.unusedSimpArgs false
set_option linter.unusedVariables false

set_option maxRecDepth 100000 in
theorem seat_looks : false = Tryz.prog.looks [] := by kernel_rfl
end Go.Proofs.YtmmclabkkigiaaaGreatDoor
