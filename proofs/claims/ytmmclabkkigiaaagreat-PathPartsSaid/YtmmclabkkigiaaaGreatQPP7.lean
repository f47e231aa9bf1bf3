/- Texts, one behind the other: ALpPt, PLpPt, Lo, LoS, Ro18. -/
import Derived.OpenShut
import Derived.Test.YtmmclabkkigiaaaGreatQPP6
set_option linter.unusedVariables false
set_option linter.unusedSimpArgs false
set_option maxRecDepth 20000
set_option maxHeartbeats 4000000
namespace Go.Proofs.YtmmclabkkigiaaaGreat
open Go Go.RowKit
def pathparts_J3 (a_ : Int) (b_ : Int) (r140 : Nd × Int) (r168 : Bool × Int) (p191 : Bool) (p192 : Int) : Option (Bool) :=
 if r168.2 = 0 then (if p192 = 0 then (if (1 + (a_.tmod ((2 + (19 : Int) % 20) - 1))) = (1 + (b_.tmod ((2 + (19 : Int) % 20) - 1))) then (if ((r168.1 = true) ↔ True) then (if r140.1.k = 2 then ((works16_M).bind fun r201 =>
some r201) else (if r168.1 = true then (if (1 + (a_.tmod ((2 + (19 : Int) % 20) - 1))) = (1 + (b_.tmod ((2 + (19 : Int) % 20) - 1))) then ((works16_M).bind fun r209 =>
some r209) else (some false)) else ((works16_M).bind fun r216 =>
some r216))) else (some false)) else (if ((r168.1 = true) ↔ (p191 = true)) then (if r140.1.k = 2 then ((works16_M).bind fun r225 =>
some r225) else (if r168.1 = true then (if (1 + (a_.tmod ((2 + (19 : Int) % 20) - 1))) = (1 + (b_.tmod ((2 + (19 : Int) % 20) - 1))) then ((works16_M).bind fun r233 =>
some r233) else (some false)) else ((works16_M).bind fun r240 =>
some r240))) else (some false))) else (some false)) else (some false)
def pathparts_J2 (a_ : Int) (b_ : Int) (r21 : List Int) (r140 : Nd × Int) (r154 : Nd × Int) (r168 : Bool × Int) (p175 : Bool) : Option (Bool) :=
 if p175 = true then (if r168.2 = 4 then (if r168.1 = true then (some false) else ((works16_M).bind fun r183 =>
some r183)) else (some false)) else (if r154.1.m = 0 then (pathparts_J3 a_ b_ r140 r168 false 0) else (need (-9223372036854775808 ≤ r154.1.m ∧ r154.1.m ≤ 9223372036854775807) <|
(pWithin_M r21 ([]) 1 (2 + (19 : Int) % 20) (2 + (59 : Int) % 60) (1 + (a_.tmod ((2 + (19 : Int) % 20) - 1))) r154.1.m).bind fun r259 =>
pathparts_J3 a_ b_ r140 r168 r259.1 r259.2))
def pathparts_J1 (a_ : Int) (b_ : Int) (r21 : List Int) (r47 : Int × ByteArray × Int) : Option (Bool) :=
 (pWithin_M r21 ([]) 1 (2 + (19 : Int) % 20) (2 + (59 : Int) % 60) 1 r47.1).bind fun r119 =>
if r119.2 = 0 then (if r119.1 = true then (need (-9223372036854775808 ≤ a_ ∧ a_ ≤ 9223372036854775807) <|
need (-9223372036854775808 ≤ ((2 + (19 : Int) % 20) - 1) ∧ ((2 + (19 : Int) % 20) - 1) ≤ 9223372036854775807) <|
need (¬ (((2 + (19 : Int) % 20) - 1) = 0)) <|
need (-9223372036854775808 ≤ (1 + (a_.tmod ((2 + (19 : Int) % 20) - 1))) ∧ (1 + (a_.tmod ((2 + (19 : Int) % 20) - 1))) ≤ 9223372036854775807) <|
need (-9223372036854775808 ≤ b_ ∧ b_ ≤ 9223372036854775807) <|
need (-9223372036854775808 ≤ ((2 + (19 : Int) % 20) - 1) ∧ ((2 + (19 : Int) % 20) - 1) ≤ 9223372036854775807) <|
need (¬ (((2 + (19 : Int) % 20) - 1) = 0)) <|
need (-9223372036854775808 ≤ (1 + (b_.tmod ((2 + (19 : Int) % 20) - 1))) ∧ (1 + (b_.tmod ((2 + (19 : Int) % 20) - 1))) ≤ 9223372036854775807) <|
(some (igetM r21 ([]) 1 (2 + (19 : Int) % 20) (2 + (59 : Int) % 60) (1 + (a_.tmod ((2 + (19 : Int) % 20) - 1))))).bind fun r140 =>
(some (igetM r21 ([]) 1 (2 + (19 : Int) % 20) (2 + (59 : Int) % 60) (1 + (b_.tmod ((2 + (19 : Int) % 20) - 1))))).bind fun r154 =>
(pWithin_M r21 ([]) 1 (2 + (19 : Int) % 20) (2 + (59 : Int) % 60) (1 + (a_.tmod ((2 + (19 : Int) % 20) - 1))) (1 + (b_.tmod ((2 + (19 : Int) % 20) - 1)))).bind fun r168 =>
if r140.2 = 0 then (pathparts_J2 a_ b_ r21 r140 r154 r168 (!decide (r154.2 = 0))) else (pathparts_J2 a_ b_ r21 r140 r154 r168 true)) else (some false)) else (some false)
def pathparts_M (ms : List TMk) (tx_ : ByteArray) (a_ : Int) (b_ : Int) : Option (Bool) :=
 if (ms.length : Int) > 40 then ((works16_M).bind fun r6 =>
some r6) else (if (tx_.size : Int) > 1000 then ((works16_M).bind fun r13 =>
some r13) else ((tree_M ms).bind fun r21 =>
need (r21.length ≤ 17592186044415) <|
(pWalk_M r21 ([]) 1 (2 + (19 : Int) % 20) (2 + (59 : Int) % 60) tx_).bind fun r41 =>
(pParent_M r21 ([]) 1 (2 + (19 : Int) % 20) (2 + (59 : Int) % 60) tx_).bind fun r47 =>
(psplit_M tx_).bind fun r55 =>
if r55.2 = 0 then (if (r55.1.length : Int) = 0 then (if r41.2 = 0 then (if r41.1 = 1 then (if r47.2.2 = 13 then ((works16_M).bind fun r70 =>
some r70) else (some false)) else (some false)) else (some false)) else (if r47.2.2 = 0 then ((eFind_M r21 ([]) 1 (2 + (19 : Int) % 20) (2 + (59 : Int) % 60) r47.1 r47.2.1).bind fun r83 =>
need (-9223372036854775808 ≤ ((r55.1.length : Int) - 1) ∧ ((r55.1.length : Int) - 1) ≤ 9223372036854775807) <|
need (0 ≤ ((r55.1.length : Int) - 1) ∧ ((r55.1.length : Int) - 1) ≤ (r55.1.length : Int)) <|
(pjoin_M (r55.1.take (((r55.1.length : Int) - 1).toNat))).bind fun r100 =>
(pWalk_M r21 ([]) 1 (2 + (19 : Int) % 20) (2 + (59 : Int) % 60) r100).bind fun r105 =>
if r41.2 = r83.2.2.2 then (if r41.2 = 0 then (if r83.2.1 = r41.1 then (if r105.2 = 0 then (if r105.1 = r47.1 then (need (-9223372036854775808 ≤ ((r55.1.length : Int) - 1) ∧ ((r55.1.length : Int) - 1) ≤ 9223372036854775807) <|
need (0 ≤ ((r55.1.length : Int) - 1) ∧ ((r55.1.length : Int) - 1) < (r55.1.length : Int)) <|
if (r47.2.1.toList == (r55.1.getD (((r55.1.length : Int) - 1).toNat) ByteArray.empty).toList) = true then (pathparts_J1 a_ b_ r21 r47) else (some false)) else (some false)) else (some false)) else (some false)) else (if r105.2 = 0 then (if r105.1 = r47.1 then (need (-9223372036854775808 ≤ ((r55.1.length : Int) - 1) ∧ ((r55.1.length : Int) - 1) ≤ 9223372036854775807) <|
need (0 ≤ ((r55.1.length : Int) - 1) ∧ ((r55.1.length : Int) - 1) < (r55.1.length : Int)) <|
if (r47.2.1.toList == (r55.1.getD (((r55.1.length : Int) - 1).toNat) ByteArray.empty).toList) = true then (pathparts_J1 a_ b_ r21 r47) else (some false)) else (some false)) else (some false))) else (some false)) else (if r41.2 = r47.2.2 then ((works16_M).bind fun r335 =>
some r335) else (some false)))) else (if r41.2 = r55.2 then (if r47.2.2 = r55.2 then (if r41.1 = 0 then (if r47.1 = 0 then (if (r47.2.1.toList == ByteArray.empty.toList) = true then ((works16_M).bind fun r348 =>
some r348) else (some false)) else (some false)) else (some false)) else (some false)) else (some false))))
theorem pathparts_walk {ms : List TMk} {tx_ : ByteArray} {a_ : Int} {b_ : Int} {ma : Option Addr} {mc : Nat}  (B : Nat) (w : World) (hB : w.heap.size = B) (hmk : CellsAt ma (kMk.cells ms) w) (hm : pathparts_M ms tx_ a_ b_ = some true) : Spec Tryz.prog 4 #[(.slice ma ms.length mc), (.string tx_), (.int .u8 a_), (.int .u8 b_)] B w [] (fun v H' => v = .bool true ∧ H' = []) := by
 refine spec_Q Tryz.func4 rfl fun hs => ?_
 unfold pathparts_M at hm
 refine W.sr fun K1 hK1 => ?_
 refine zE 1 (hK1 _ _ ?_)
 refine W.seq fun K2 hK2 => ?_
 refine W.sr fun K3 hK3 => ?_
 refine zR 4 ?_
 rcases Bool.eq_false_or_eq_true (decide ((ms.length : Int) > 40)) with h4 | h4
 ·
  obtain ⟨h4p, hm⟩ := iY hm h4
  refine zS 37 h4 ?_
  refine zS 36 h4 ?_
  refine zE 4 (hK3 _ _ ?_)
  refine W.cond_true true (by kernel_rfl) rfl ?_
  refine W.sr fun K5 hK5 => ?_
  obtain ⟨r6, h7, hm⟩ := bind_some hm
  refine zC00 hs (works16_walk (hm := h7) B _) fun w8 hs10 => ?_
  refine zE 1 (hK5 _ _ ?_)
  refine W.ret (ret_seq ?_)
  refine ret_of (.bool r6) (by kernel_rfl) ⟨_, ⟨congrArg Value.bool (some_inj hm), rfl⟩, hs10⟩
 obtain ⟨h4p, hm⟩ := iN hm h4
 refine zS 37 h4 ?_
 refine zS 36 h4 ?_
 refine zE 4 (hK3 _ _ ?_)
 refine W.cond (decide ((tx_.size : Int) > 1000)) (by kernel_rfl) (fun h11 => ?_) (fun h11 => ?_)
 ·
  obtain ⟨h11p, hm⟩ := iY hm h11
  refine W.sr fun K12 hK12 => ?_
  obtain ⟨r13, h14, hm⟩ := bind_some hm
  refine zC00 hs (works16_walk (hm := h14) B _) fun w15 hs17 => ?_
  refine zE 1 (hK12 _ _ ?_)
  refine W.ret (ret_seq ?_)
  refine ret_of (.bool r13) (by kernel_rfl) ⟨_, ⟨congrArg Value.bool (some_inj hm), rfl⟩, hs17⟩
 obtain ⟨h11p, hm⟩ := iN hm h11
 refine W.skip ?_
 refine hK2 _ _ ?_
 refine W.sr fun K18 hK18 => ?_
 refine zR 1 ?_
 obtain ⟨r21, h22, hm⟩ := bind_some hm
 refine ops_call0 hs (by kernel_rfl) (tree_walk (mc := mc) (hmk := (hs.oldCells hmk)) (hm := h22) B _) ?_
 rintro _ _ w23 ⟨a19, c20, rfl, rfl⟩ hs24
 have hs25 := St.ap1 hs24
 refine zR 3 ?_
 refine zN [(zi 0), (zi 0), (zi 0)] 24 hs25 fun b28 w26 hs27 => ?_
 refine zT 0 [(zi 1), (zi (2 + (19 : Int) % 20)), (zi (2 + (59 : Int) % 60))] [(zi 1), (zi (2 + (19 : Int) % 20)), (zi (2 + (59 : Int) % 60))] hs27 fun w29 hs31 => ?_
 refine zE 1 (hK18 _ _ ?_)
 refine W.sr fun K32 hK32 => ?_
 refine zR 1 ?_
 obtain ⟨h34, hm⟩ := need_some hm
 refine ops_call0 hs31 (by kernel_rfl) (new_spec (hc := (St.kcells kU64 hs31 1 rfl)) (hn := (St.capnil kU64 hs31 1 rfl)) (hsz := h34) B _) ?_
 rintro _ _ w35 ⟨b33, rfl, rfl⟩ hs36
 have hs37 := St.ap1 hs36
 refine zE 1 (hK32 _ _ ?_)
 refine W.seq fun K38 hK38 => ?_
 refine W.sr fun K39 hK39 => ?_
 refine zE 2 (hK39 _ _ ?_)
 refine W.cond_false false (by kernel_rfl) rfl ?_
 refine W.skip ?_
 refine hK38 _ _ ?_
 refine W.sr fun K40 hK40 => ?_
 refine zR 1 ?_
 refine zG ⟨b28, 0, none⟩ [(zi 1), (zi (2 + (19 : Int) % 20)), (zi (2 + (59 : Int) % 60))] (cells_sub (hs37.heapAt 1 rfl) rfl) ?_
 refine zR 1 ?_
 obtain ⟨r41, h42, hm⟩ := bind_some hm
 refine zC11 hs37 (pWalk_walk (vb := b33) (gw := 1) (gi := (2 + (19 : Int) % 20)) (gb := (2 + (59 : Int) % 60)) (tx_ := tx_) (img := r21) (l := []) (hm := h42) B _) fun w43 hs45 => ?_
 refine zE 5 (hK40 _ _ ?_)
 refine W.sr fun K46 hK46 => ?_
 refine zR 1 ?_
 refine zG ⟨b28, 0, none⟩ [(zi 1), (zi (2 + (19 : Int) % 20)), (zi (2 + (59 : Int) % 60))] (cells_sub (hs45.heapAt 1 rfl) rfl) ?_
 refine zR 1 ?_
 obtain ⟨r47, h48, hm⟩ := bind_some hm
 refine zC11 hs45 (pParent_walk (vb := b33) (gw := 1) (gi := (2 + (19 : Int) % 20)) (gb := (2 + (59 : Int) % 60)) (tx_ := tx_) (img := r21) (l := []) (hm := h48) B _) fun w49 hs51 => ?_
 refine zE 7 (hK46 _ _ ?_)
 refine W.sr fun K52 hK52 => ?_
 refine zR 1 ?_
 obtain ⟨r55, h56, hm⟩ := bind_some hm
 refine ops_call0 hs51 (by kernel_rfl) (psplit_walk (tx_ := tx_) (hm := h56) B _) ?_
 rintro _ _ w57 ⟨a53, c54, rfl, rfl⟩ hs58
 have hs59 := St.ap1 hs58
 refine zE 5 (hK52 _ _ ?_)
 refine W.seq fun K60 hK60 => ?_
 refine W.sr fun K61 hK61 => ?_
 refine zE 2 (hK61 _ _ ?_)
 refine W.cond (!decide (r55.2 = 0)) (by kernel_rfl) (fun h62 => ?_) (fun h62 => ?_)
 rotate_left
 ·
  have h62p : r55.2 = 0 := of_decide_eq_true (bnot_false h62)
  replace hm := ite_yes hm h62p
  refine W.skip ?_
  refine hK60 _ _ ?_
  refine W.seq fun K63 hK63 => ?_
  refine W.sr fun K64 hK64 => ?_
  refine zE 3 (hK64 _ _ ?_)
  refine W.cond (decide ((r55.1.length : Int) = 0)) (by kernel_rfl) (fun h65 => ?_) (fun h65 => ?_)
  ·
   obtain ⟨h65p, hm⟩ := iY hm h65
   refine W.sr fun K66 hK66 => ?_
   refine zR 3 ?_
   rcases Bool.eq_false_or_eq_true (decide (r41.2 = 0)) with h67 | h67
   ·
    obtain ⟨h67p, hm⟩ := iY hm h67
    refine zS 102 h67 ?_
    refine zS 101 h67 ?_
    refine zR 4 ?_
    rcases Bool.eq_false_or_eq_true (decide (r41.1 = 1)) with h68 | h68
    ·
     obtain ⟨h68p, hm⟩ := iY hm h68
     refine zS 106 h68 ?_
     refine zS 104 h68 ?_
     refine zS 105 h68 ?_
     refine zR 4 ?_
     rcases Bool.eq_false_or_eq_true (decide (r47.2.2 = 13)) with h69 | h69
     ·
      obtain ⟨h69p, hm⟩ := iY hm h69
      refine zS 110 h69 ?_
      refine zS 108 h69 ?_
      refine zS 109 h69 ?_
      obtain ⟨r70, h71, hm⟩ := bind_some hm
      refine zC00 hs59 (works16_walk (hm := h71) B _) fun w72 hs74 => ?_
      refine zE 2 (hK66 _ _ ?_)
      refine W.ret (ret_seq ?_)
      have hs75 := St.tk0 hs74
      refine ret_of (.bool r70) (by kernel_rfl) ⟨_, ⟨congrArg Value.bool (some_inj hm), rfl⟩, hs75⟩
     obtain ⟨h69p, hm⟩ := iN hm h69
     refine zS 110 h69 ?_
     refine zS 108 h69 ?_
     refine zS 109 h69 ?_
     refine zE 3 (hK66 _ _ ?_)
     refine W.ret (ret_seq ?_)
     have hs76 := St.tk0 hs59
     refine ret_of (.bool false) (by kernel_rfl) ⟨_, ⟨congrArg Value.bool (some_inj hm), rfl⟩, hs76⟩
    obtain ⟨h68p, hm⟩ := iN hm h68
    refine zS 106 h68 ?_
    refine zS 104 h68 ?_
    refine zS 105 h68 ?_
    refine zE 7 (hK66 _ _ ?_)
    refine W.ret (ret_seq ?_)
    have hs77 := St.tk0 hs59
    refine ret_of (.bool false) (by kernel_rfl) ⟨_, ⟨congrArg Value.bool (some_inj hm), rfl⟩, hs77⟩
   obtain ⟨h67p, hm⟩ := iN hm h67
   refine zS 102 h67 ?_
   refine zS 101 h67 ?_
   refine zE 11 (hK66 _ _ ?_)
   refine W.ret (ret_seq ?_)
   have hs78 := St.tk0 hs59
   refine ret_of (.bool false) (by kernel_rfl) ⟨_, ⟨congrArg Value.bool (some_inj hm), rfl⟩, hs78⟩
  obtain ⟨h65p, hm⟩ := iN hm h65
  refine W.skip ?_
  refine hK63 _ _ ?_
  refine W.seq fun K79 hK79 => ?_
  refine W.sr fun K80 hK80 => ?_
  refine zE 2 (hK80 _ _ ?_)
  refine W.cond (!decide (r47.2.2 = 0)) (by kernel_rfl) (fun h81 => ?_) (fun h81 => ?_)
  rotate_left
  ·
   have h81p : r47.2.2 = 0 := of_decide_eq_true (bnot_false h81)
   replace hm := ite_yes hm h81p
   refine W.skip ?_
   refine hK79 _ _ ?_
   refine W.sr fun K82 hK82 => ?_
   refine zR 1 ?_
   refine zG ⟨b28, 0, none⟩ [(zi 1), (zi (2 + (19 : Int) % 20)), (zi (2 + (59 : Int) % 60))] (cells_sub (hs59.heapAt 2 rfl) rfl) ?_
   refine zR 2 ?_
   obtain ⟨r83, h84, hm⟩ := bind_some hm
   have hs85 := St.f1 hs59
   refine zC11 hs85 (eFind_walk (vb := b33) (gw := 1) (gi := (2 + (19 : Int) % 20)) (gb := (2 + (59 : Int) % 60)) (n_ := r47.1) (tx_ := r47.2.1) (img := r21) (l := []) (hm := h84) B _) fun w86 hs88 => ?_
   refine zR 4 ?_
   refine zN [(.string ByteArray.empty), (zi 0)] 59 hs88 fun b91 w89 hs90 => ?_
   refine zT 0 [(.string r83.1), (zi r83.2.1)] [(.string r83.1), (zi r83.2.1)] hs90 fun w92 hs94 => ?_
   refine zE 2 (hK82 _ _ ?_)
   refine W.seq fun K95 hK95 => ?_
   have hs96 := hs94.drew
   refine W.regionD [(0, 0), (0, 0), (0, 0), (0, 0), (8, 8), (16, 16), (36, 36), (64, 64), (131, 131), (256, 256), (512, 512), (512, 512), (2047, 1024), (8191, 2048)] (fun w_ => St B w [] w_ [zb b91 59 [(.string r83.1), (zi r83.2.1)], viewA (ptr b33) r21 ([]), kStr.row a53 c54 r55.1, zb b28 24 [(zi 1), (zi (2 + (19 : Int) % 20)), (zi (2 + (59 : Int) % 60))], kU64.row a19 c20 r21]) (by kernel_rfl) hs96 ?_
   refine zA (zp b33) 0 hs96 ?_
   refine any_R 1 (by kernel_rfl) (fun _ hS_ => runs_loadAgg (ad := ⟨b28, 0, none⟩) (cs := [(zi 1), (zi (2 + (19 : Int) % 20)), (zi (2 + (59 : Int) % 60))]) (by kernel_rfl) (cells_sub (hS_.heapAt 3 rfl) rfl)) hs96 ?_
   refine zA (.slice a53 r55.1.length c54) 2 hs96 ?_
   refine zA (.slice a53 r55.1.length c54) 3 hs96 ?_
   refine zA (zi (r55.1.length : Int)) 4 hs96 ?_
   obtain ⟨h97, hm⟩ := need_some hm
   refine any_val (v := .int .i64 (IntKind.i64.wrap ((r55.1.length : Int) - 1))) (v' := .int .i64 ((r55.1.length : Int) - 1)) 5 (by kernel_rfl) (fun _ => by kernel_rfl) (congrArg (Value.int .i64) (wrap_i64 h97.1 h97.2)) hs96 ?_
   obtain ⟨h98, hm⟩ := need_some hm
   have hc99 := St.kcap kStr hs96 2 rfl
   refine any_R 6 (by kernel_rfl) (fun _ hS_ => runs_prefixL (a := a53) (n := r55.1.length) (c := c54) (z := ((r55.1.length : Int) - 1)) (size := 1) (((r55.1.length : Int) - 1).toNat) (r55.1.take (((r55.1.length : Int) - 1).toNat)).length (le_take_len (le_toNat h98)) (nat_of h98.1) (le_toNat h98) hc99 (by kernel_rfl)) hs96 ?_
   refine any_step 7 (by kernel_rfl) (by kernel_rfl) ?_
   obtain ⟨r100, h101, hm⟩ := bind_some hm
   refine zC00 hs96 (pjoin_walk (xs := (r55.1.take (((r55.1.length : Int) - 1).toNat))) (xc := c54) (hx := (cells_take kStr (((r55.1.length : Int) - 1).toNat) (St.kcells kStr hs96 2 rfl))) (hcap := (Nat.le_trans (List.length_take_le' _ _) (St.kcap kStr hs96 2 rfl))) (hm := h101) B _) fun w102 hs104 => ?_
   refine ops_done (by kernel_rfl) ⟨hs104, ?_⟩
   refine any_step 8 (by kernel_rfl) (by kernel_rfl) ?_
   obtain ⟨r105, h106, hm⟩ := bind_some hm
   have hs107 := St.f1 hs104
   refine zC11 hs107 (pWalk_walk (vb := b33) (gw := 1) (gi := (2 + (19 : Int) % 20)) (gb := (2 + (59 : Int) % 60)) (tx_ := r100) (img := r21) (l := []) (hm := h106) B _) fun w108 hs110 => ?_
   have hs111 := St.f4 hs110
   have hs112 := St.f4 hs111
   have hs113 := St.f4 hs112
   have hs114 := St.f3 hs113
   have hs115 := St.f4 hs114
   refine ops_done (by kernel_rfl) ⟨hs115, ?_⟩
   refine zA (.tuple #[(zi r105.1), (zi r105.2)]) 9 hs115 ?_
   refine zA (zi r105.1) 10 hs115 ?_
   refine zA (zi r105.2) 11 hs115 ?_
   refine zA (zi r105.1) 12 hs115 ?_
   refine zA (zi r105.2) 13 hs115 ?_
   refine any_done (by kernel_rfl) ?_
   refine hK95 _ _ ?_
   refine W.seq_join (fun s_ w_ => (∃ us, s_ = slots 284 [(2, (.int .u8 a_)), (3, (.int .u8 b_)), (9, (zp b28)), (11, (zp b33)), (14, (zi r47.1))] us) ∧ St B w [] w_ [zb b28 24 [(zi 1), (zi (2 + (19 : Int) % 20)), (zi (2 + (59 : Int) % 60))], viewA (ptr b33) r21 ([]), zb b91 59 [(.string r83.1), (zi r83.2.1)], kStr.row a53 c54 r55.1, kU64.row a19 c20 r21] ∧ pathparts_J1 a_ b_ r21 r47 = some true) ?_ ?_
   ·
    rintro _ w116 ⟨⟨us, rfl⟩, hs117, hm⟩
    unfold pathparts_J1 at hm
    refine W.sr fun K118 hK118 => ?_
    refine zR 1 ?_
    refine zG ⟨b28, 0, none⟩ [(zi 1), (zi (2 + (19 : Int) % 20)), (zi (2 + (59 : Int) % 60))] (cells_sub (hs117.heapAt 0 rfl) rfl) ?_
    refine zR 1 ?_
    obtain ⟨r119, h120, hm⟩ := bind_some hm
    have hs121 := St.f1 hs117
    refine zC11 hs121 (pWithin_walk (vb := b33) (gw := 1) (gi := (2 + (19 : Int) % 20)) (gb := (2 + (59 : Int) % 60)) (a_ := 1) (b_ := r47.1) (img := r21) (l := []) (hm := h120) B _) fun w122 hs124 => ?_
    refine zE 5 (hK118 _ _ ?_)
    refine W.seq fun K125 hK125 => ?_
    refine W.sr fun K126 hK126 => ?_
    refine zR 3 ?_
    rcases Bool.eq_false_or_eq_true (!decide (r119.2 = 0)) with h127 | h127
    rotate_left
    ·
     have h127p : r119.2 = 0 := of_decide_eq_true (bnot_false h127)
     replace hm := ite_yes hm h127p
     refine zS 183 h127 ?_
     refine zS 182 h127 ?_
     refine zE 3 (hK126 _ _ ?_)
     refine W.cond (!r119.1) (by kernel_rfl) (fun h128 => ?_) (fun h128 => ?_)
     rotate_left
     ·
      have h128p : r119.1 = true := (bnot_false h128)
      replace hm := ite_yes hm h128p
      refine W.skip ?_
      refine hK125 _ _ ?_
      refine W.seq fun K129 hK129 => ?_
      have hs130 := hs124.drew
      refine W.regionD [(0, 0), (1, 1), (0, 0), (4, 4), (8, 8), (18, 18), (32, 32), (0, 0), (128, 128), (0, 0), (512, 512), (1024, 1024), (2304, 2304), (4096, 4096), (127, 64), (32767, 8192)] (fun w_ => St B w [] w_ [viewA (ptr b33) r21 ([]), zb b28 24 [(zi 1), (zi (2 + (19 : Int) % 20)), (zi (2 + (59 : Int) % 60))], zb b91 59 [(.string r83.1), (zi r83.2.1)], kStr.row a53 c54 r55.1, kU64.row a19 c20 r21]) (by kernel_rfl) hs130 ?_
      refine zA (.int .u8 a_) 0 hs130 ?_
      obtain ⟨h131, hm⟩ := need_some hm
      refine any_val (v := .int .i64 (IntKind.i64.wrap a_)) (v' := .int .i64 a_) 1 (by kernel_rfl) (fun _ => by kernel_rfl) (congrArg (Value.int .i64) (wrap_i64 h131.1 h131.2)) hs130 ?_
      refine zA (.pointer (some ⟨b28, 1, none⟩)) 2 hs130 ?_
      refine zB 3 ⟨b28, 1, none⟩ (zi (2 + (19 : Int) % 20)) (fun _ hS_ => (hS_.cellAt 1 rfl rfl)) hs130 ?_
      obtain ⟨h132, hm⟩ := need_some hm
      refine any_val (v := .int .i64 (IntKind.i64.wrap ((2 + (19 : Int) % 20) - 1))) (v' := .int .i64 ((2 + (19 : Int) % 20) - 1)) 4 (by kernel_rfl) (fun _ => by kernel_rfl) (congrArg (Value.int .i64) (wrap_i64 h132.1 h132.2)) hs130 ?_
      obtain ⟨h133, hm⟩ := need_some hm
      refine any_R (v := .int .i64 (a_.tmod ((2 + (19 : Int) % 20) - 1))) 5 (by kernel_rfl) (fun _ hS_ => runs_rem (k := .i64) (a := a_) (b := ((2 + (19 : Int) % 20) - 1)) (by kernel_rfl) h133 rfl) hs130 ?_
      obtain ⟨h134, hm⟩ := need_some hm
      refine any_val (v := .int .i64 (IntKind.i64.wrap (1 + (a_.tmod ((2 + (19 : Int) % 20) - 1))))) (v' := .int .i64 (1 + (a_.tmod ((2 + (19 : Int) % 20) - 1)))) 6 (by kernel_rfl) (fun _ => by kernel_rfl) (congrArg (Value.int .i64) (wrap_i64 h134.1 h134.2)) hs130 ?_
      refine zA (.int .u8 b_) 7 hs130 ?_
      obtain ⟨h135, hm⟩ := need_some hm
      refine any_val (v := .int .i64 (IntKind.i64.wrap b_)) (v' := .int .i64 b_) 8 (by kernel_rfl) (fun _ => by kernel_rfl) (congrArg (Value.int .i64) (wrap_i64 h135.1 h135.2)) hs130 ?_
      refine zA (.pointer (some ⟨b28, 1, none⟩)) 9 hs130 ?_
      refine zB 10 ⟨b28, 1, none⟩ (zi (2 + (19 : Int) % 20)) (fun _ hS_ => (hS_.cellAt 1 rfl rfl)) hs130 ?_
      obtain ⟨h136, hm⟩ := need_some hm
      refine any_val (v := .int .i64 (IntKind.i64.wrap ((2 + (19 : Int) % 20) - 1))) (v' := .int .i64 ((2 + (19 : Int) % 20) - 1)) 11 (by kernel_rfl) (fun _ => by kernel_rfl) (congrArg (Value.int .i64) (wrap_i64 h136.1 h136.2)) hs130 ?_
      obtain ⟨h137, hm⟩ := need_some hm
      refine any_R (v := .int .i64 (b_.tmod ((2 + (19 : Int) % 20) - 1))) 12 (by kernel_rfl) (fun _ hS_ => runs_rem (k := .i64) (a := b_) (b := ((2 + (19 : Int) % 20) - 1)) (by kernel_rfl) h137 rfl) hs130 ?_
      obtain ⟨h138, hm⟩ := need_some hm
      refine any_val (v := .int .i64 (IntKind.i64.wrap (1 + (b_.tmod ((2 + (19 : Int) % 20) - 1))))) (v' := .int .i64 (1 + (b_.tmod ((2 + (19 : Int) % 20) - 1)))) 13 (by kernel_rfl) (fun _ => by kernel_rfl) (congrArg (Value.int .i64) (wrap_i64 h138.1 h138.2)) hs130 ?_
      refine zA (zi (1 + (a_.tmod ((2 + (19 : Int) % 20) - 1)))) 14 hs130 ?_
      refine zA (zi (1 + (b_.tmod ((2 + (19 : Int) % 20) - 1)))) 15 hs130 ?_
      refine any_done (by kernel_rfl) ?_
      refine hK129 _ _ ?_
      refine W.sr fun K139 hK139 => ?_
      refine zR 1 ?_
      refine zG ⟨b28, 0, none⟩ [(zi 1), (zi (2 + (19 : Int) % 20)), (zi (2 + (59 : Int) % 60))] (cells_sub (hs130.heapAt 1 rfl) rfl) ?_
      refine zR 1 ?_
      obtain ⟨r140, h141, hm⟩ := bind_some hm
      replace h141 := some_inj h141
      refine ops_call0 hs130 (by kernel_rfl) (ig_spec (gw := 1) (gi := (2 + (19 : Int) % 20)) (gb := (2 + (59 : Int) % 60)) (n_ := (1 + (a_.tmod ((2 + (19 : Int) % 20) - 1)))) (hv := (hs130.entAt 0 rfl viewA_at)) B _) ?_
      rintro _ _ w142 ⟨hv144, hH145⟩ hs143
      rw [h141] at hv144
      try rw [h141] at hH145
      subst hv144 hH145
      have hs146 := St.ap0 hs143
      refine zR 3 ?_
      refine zN [(zu 0), (zu 0), (zu 0), (zu 0), (zu 0), (zu 0), (zu 0), (zu 0), (zu 0), (zu 0)] 65 hs146 fun b149 w147 hs148 => ?_
      refine zT 0 [(zu r140.1.k), (zu r140.1.l), (zu r140.1.o), (zu r140.1.s), (zu r140.1.a), (zu r140.1.b), (zu r140.1.c), (zu r140.1.d), (zu r140.1.e), (zu r140.1.m)] [(zu r140.1.k), (zu r140.1.l), (zu r140.1.o), (zu r140.1.s), (zu r140.1.a), (zu r140.1.b), (zu r140.1.c), (zu r140.1.d), (zu r140.1.e), (zu r140.1.m)] hs148 fun w150 hs152 => ?_
      refine zE 1 (hK139 _ _ ?_)
      refine W.sr fun K153 hK153 => ?_
      refine zR 1 ?_
      refine zG ⟨b28, 0, none⟩ [(zi 1), (zi (2 + (19 : Int) % 20)), (zi (2 + (59 : Int) % 60))] (cells_sub (hs152.heapAt 2 rfl) rfl) ?_
      refine zR 1 ?_
      obtain ⟨r154, h155, hm⟩ := bind_some hm
      replace h155 := some_inj h155
      refine ops_call0 hs152 (by kernel_rfl) (ig_spec (gw := 1) (gi := (2 + (19 : Int) % 20)) (gb := (2 + (59 : Int) % 60)) (n_ := (1 + (b_.tmod ((2 + (19 : Int) % 20) - 1)))) (hv := (hs152.entAt 1 rfl viewA_at)) B _) ?_
      rintro _ _ w156 ⟨hv158, hH159⟩ hs157
      rw [h155] at hv158
      try rw [h155] at hH159
      subst hv158 hH159
      have hs160 := St.ap0 hs157
      refine zR 3 ?_
      refine zN [(zu 0), (zu 0), (zu 0), (zu 0), (zu 0), (zu 0), (zu 0), (zu 0), (zu 0), (zu 0)] 65 hs160 fun b163 w161 hs162 => ?_
      refine zT 0 [(zu r154.1.k), (zu r154.1.l), (zu r154.1.o), (zu r154.1.s), (zu r154.1.a), (zu r154.1.b), (zu r154.1.c), (zu r154.1.d), (zu r154.1.e), (zu r154.1.m)] [(zu r154.1.k), (zu r154.1.l), (zu r154.1.o), (zu r154.1.s), (zu r154.1.a), (zu r154.1.b), (zu r154.1.c), (zu r154.1.d), (zu r154.1.e), (zu r154.1.m)] hs162 fun w164 hs166 => ?_
      refine zE 1 (hK153 _ _ ?_)
      refine W.sr fun K167 hK167 => ?_
      refine zR 1 ?_
      refine zG ⟨b28, 0, none⟩ [(zi 1), (zi (2 + (19 : Int) % 20)), (zi (2 + (59 : Int) % 60))] (cells_sub (hs166.heapAt 3 rfl) rfl) ?_
      refine zR 2 ?_
      obtain ⟨r168, h169, hm⟩ := bind_some hm
      have hs170 := St.f2 hs166
      refine zC11 hs170 (pWithin_walk (vb := b33) (gw := 1) (gi := (2 + (19 : Int) % 20)) (gb := (2 + (59 : Int) % 60)) (a_ := (1 + (a_.tmod ((2 + (19 : Int) % 20) - 1)))) (b_ := (1 + (b_.tmod ((2 + (19 : Int) % 20) - 1)))) (img := r21) (l := []) (hm := h169) B _) fun w171 hs173 => ?_
      refine zE 5 (hK167 _ _ ?_)
      refine W.seq fun K174 hK174 => ?_
      refine W.seq_join (fun s_ w_ => ∃ (p175 : Bool), (∃ us, s_ = slots 284 [(9, (zp b28)), (11, (zp b33)), (24, (.bool r168.1)), (25, (zi r168.2)), (26, (zi (1 + (a_.tmod ((2 + (19 : Int) % 20) - 1))))), (27, (zi (1 + (b_.tmod ((2 + (19 : Int) % 20) - 1))))), (28, (zp b149)), (30, (zp b163)), (228, (.bool p175))] us) ∧ St B w [] w_ [zb b28 24 [(zi 1), (zi (2 + (19 : Int) % 20)), (zi (2 + (59 : Int) % 60))], viewA (ptr b33) r21 ([]), zb b149 65 [(zu r140.1.k), (zu r140.1.l), (zu r140.1.o), (zu r140.1.s), (zu r140.1.a), (zu r140.1.b), (zu r140.1.c), (zu r140.1.d), (zu r140.1.e), (zu r140.1.m)], zb b163 65 [(zu r154.1.k), (zu r154.1.l), (zu r154.1.o), (zu r154.1.s), (zu r154.1.a), (zu r154.1.b), (zu r154.1.c), (zu r154.1.d), (zu r154.1.e), (zu r154.1.m)], zb b91 59 [(.string r83.1), (zi r83.2.1)], kStr.row a53 c54 r55.1, kU64.row a19 c20 r21] ∧ pathparts_J2 a_ b_ r21 r140 r154 r168 p175 = some true) ?_ ?_
      ·
       rintro _ w176 ⟨p175, ⟨us, rfl⟩, hs177, hm⟩
       unfold pathparts_J2 at hm
       refine W.cond p175 (by kernel_rfl) (fun h178 => ?_) (fun h178 => ?_)
       ·
        have h178p : p175 = true := h178
        replace hm := ite_yes hm h178p
        refine W.sr fun K179 hK179 => ?_
        refine zR 3 ?_
        rcases Bool.eq_false_or_eq_true (decide (r168.2 = 4)) with h180 | h180
        ·
         obtain ⟨h180p, hm⟩ := iY hm h180
         refine zS 231 h180 ?_
         refine zS 230 h180 ?_
         refine zR 4 ?_
         rcases Bool.eq_false_or_eq_true (!r168.1) with h181 | h181
         rotate_left
         ·
          have h181p : r168.1 = true := (bnot_false h181)
          replace hm := ite_yes hm h181p
          refine zS 235 h181 ?_
          refine zS 233 h181 ?_
          refine zS 234 h181 ?_
          refine zE 3 (hK179 _ _ ?_)
          refine W.ret (ret_seq ?_)
          have hs182 := St.tk0 hs177
          refine ret_of (.bool false) (by kernel_rfl) ⟨_, ⟨congrArg Value.bool (some_inj hm), rfl⟩, hs182⟩
         have h181p : ¬ (r168.1 = true) := ne_true_of_eq_false (bnot_true h181)
         replace hm := ite_no hm h181p
         refine zS 235 h181 ?_
         refine zS 233 h181 ?_
         refine zS 234 h181 ?_
         obtain ⟨r183, h184, hm⟩ := bind_some hm
         refine zC00 hs177 (works16_walk (hm := h184) B _) fun w185 hs187 => ?_
         refine zE 2 (hK179 _ _ ?_)
         refine W.ret (ret_seq ?_)
         have hs188 := St.tk0 hs187
         refine ret_of (.bool r183) (by kernel_rfl) ⟨_, ⟨congrArg Value.bool (some_inj hm), rfl⟩, hs188⟩
        obtain ⟨h180p, hm⟩ := iN hm h180
        refine zS 231 h180 ?_
        refine zS 230 h180 ?_
        refine zE 7 (hK179 _ _ ?_)
        refine W.ret (ret_seq ?_)
        have hs189 := St.tk0 hs177
        refine ret_of (.bool false) (by kernel_rfl) ⟨_, ⟨congrArg Value.bool (some_inj hm), rfl⟩, hs189⟩
       have h178p : ¬ (p175 = true) := ne_true_of_eq_false h178
       replace hm := ite_no hm h178p
       refine W.skip ?_
       refine hK174 _ _ ?_
       refine W.sr fun K190 hK190 => ?_
       refine zE 2 (hK190 _ _ ?_)
       refine W.seq_join (fun s_ w_ => ∃ (p191 : Bool) (p192 : Int), (∃ us, s_ = slots 284 [(24, (.bool r168.1)), (25, (zi r168.2)), (26, (zi (1 + (a_.tmod ((2 + (19 : Int) % 20) - 1))))), (27, (zi (1 + (b_.tmod ((2 + (19 : Int) % 20) - 1))))), (28, (zp b149)), (32, (.bool p191)), (33, (zi p192))] us) ∧ St B w [] w_ [zb b149 65 [(zu r140.1.k), (zu r140.1.l), (zu r140.1.o), (zu r140.1.s), (zu r140.1.a), (zu r140.1.b), (zu r140.1.c), (zu r140.1.d), (zu r140.1.e), (zu r140.1.m)], zb b28 24 [(zi 1), (zi (2 + (19 : Int) % 20)), (zi (2 + (59 : Int) % 60))], viewA (ptr b33) r21 ([]), zb b163 65 [(zu r154.1.k), (zu r154.1.l), (zu r154.1.o), (zu r154.1.s), (zu r154.1.a), (zu r154.1.b), (zu r154.1.c), (zu r154.1.d), (zu r154.1.e), (zu r154.1.m)], zb b91 59 [(.string r83.1), (zi r83.2.1)], kStr.row a53 c54 r55.1, kU64.row a19 c20 r21] ∧ pathparts_J3 a_ b_ r140 r168 p191 p192 = some true) ?_ ?_
       ·
        rintro _ w193 ⟨p191, p192, ⟨us, rfl⟩, hs194, hm⟩
        unfold pathparts_J3 at hm
        refine W.sr fun K195 hK195 => ?_
        refine zR 3 ?_
        rcases Bool.eq_false_or_eq_true (decide (r168.2 = 0)) with h196 | h196
        ·
         obtain ⟨h196p, hm⟩ := iY hm h196
         refine zS 253 h196 ?_
         refine zS 252 h196 ?_
         refine zR 4 ?_
         rcases Bool.eq_false_or_eq_true (decide (p192 = 0)) with h197 | h197
         ·
          obtain ⟨h197p, hm⟩ := iY hm h197
          refine zS 257 h197 ?_
          refine zS 255 h197 ?_
          refine zS 256 h197 ?_
          refine zR 5 ?_
          rcases Bool.eq_false_or_eq_true (decide ((1 + (a_.tmod ((2 + (19 : Int) % 20) - 1))) = (1 + (b_.tmod ((2 + (19 : Int) % 20) - 1))))) with h198 | h198
          ·
           obtain ⟨h198p, hm⟩ := iY hm h198
           refine zS 262 h198 ?_
           refine zS 261 h198 ?_
           refine zR 5 ?_
           rcases Bool.eq_false_or_eq_true (r168.1 == true) with h199 | h199
           ·
            have h199p : ((r168.1 = true) ↔ True) := beq_yes Iff.rfl tt_iff h199
            replace hm := ite_yes hm h199p
            refine zS 267 h199 ?_
            refine zS 265 h199 ?_
            refine zS 266 h199 ?_
            refine zR 1 ?_
            refine zL ⟨b149, 0, none⟩ (zu r140.1.k) (hs194.cellAt 0 rfl rfl) ?_
            refine zR 2 ?_
            rcases Bool.eq_false_or_eq_true (decide (r140.1.k = 2)) with h200 | h200
            ·
             obtain ⟨h200p, hm⟩ := iY hm h200
             refine zS 271 h200 ?_
             refine zS 270 h200 ?_
             refine zR 10 ?_
             obtain ⟨r201, h202, hm⟩ := bind_some hm
             refine zC00 hs194 (works16_walk (hm := h202) B _) fun w203 hs205 => ?_
             refine zE 2 (hK195 _ _ ?_)
             refine W.ret ?_
             have hs206 := St.tk0 hs205
             refine ret_of (.bool r201) (by kernel_rfl) ⟨_, ⟨congrArg Value.bool (some_inj hm), rfl⟩, hs206⟩
            obtain ⟨h200p, hm⟩ := iN hm h200
            refine zS 271 h200 ?_
            refine zS 270 h200 ?_
            refine zR 4 ?_
            rcases Bool.eq_false_or_eq_true (!r168.1) with h207 | h207
            rotate_left
            ·
             have h207p : r168.1 = true := (bnot_false h207)
             replace hm := ite_yes hm h207p
             refine zS 275 h207 ?_
             refine zS 273 h207 ?_
             refine zS 274 h207 ?_
             refine zR 6 ?_
             rcases Bool.eq_false_or_eq_true (decide ((1 + (a_.tmod ((2 + (19 : Int) % 20) - 1))) = (1 + (b_.tmod ((2 + (19 : Int) % 20) - 1))))) with h208 | h208
             ·
              obtain ⟨h208p, hm⟩ := iY hm h208
              refine zS 281 h208 ?_
              refine zS 278 h208 ?_
              refine zS 279 h208 ?_
              refine zS 280 h208 ?_
              obtain ⟨r209, h210, hm⟩ := bind_some hm
              refine zC00 hs194 (works16_walk (hm := h210) B _) fun w211 hs213 => ?_
              refine zE 2 (hK195 _ _ ?_)
              refine W.ret ?_
              have hs214 := St.tk0 hs213
              refine ret_of (.bool r209) (by kernel_rfl) ⟨_, ⟨congrArg Value.bool (some_inj hm), rfl⟩, hs214⟩
             obtain ⟨h208p, hm⟩ := iN hm h208
             refine zS 281 h208 ?_
             refine zS 278 h208 ?_
             refine zS 279 h208 ?_
             refine zS 280 h208 ?_
             refine zE 3 (hK195 _ _ ?_)
             refine W.ret ?_
             have hs215 := St.tk0 hs194
             refine ret_of (.bool false) (by kernel_rfl) ⟨_, ⟨congrArg Value.bool (some_inj hm), rfl⟩, hs215⟩
            have h207p : ¬ (r168.1 = true) := ne_true_of_eq_false (bnot_true h207)
            replace hm := ite_no hm h207p
            refine zS 275 h207 ?_
            refine zS 273 h207 ?_
            refine zS 274 h207 ?_
            refine zR 6 ?_
            obtain ⟨r216, h217, hm⟩ := bind_some hm
            refine zC00 hs194 (works16_walk (hm := h217) B _) fun w218 hs220 => ?_
            refine zE 2 (hK195 _ _ ?_)
            refine W.ret ?_
            have hs221 := St.tk0 hs220
            refine ret_of (.bool r216) (by kernel_rfl) ⟨_, ⟨congrArg Value.bool (some_inj hm), rfl⟩, hs221⟩
           have h199p : ¬ ((r168.1 = true) ↔ True) := beq_no Iff.rfl tt_iff h199
           replace hm := ite_no hm h199p
           refine zS 267 h199 ?_
           refine zS 265 h199 ?_
           refine zS 266 h199 ?_
           refine zE 17 (hK195 _ _ ?_)
           refine W.ret ?_
           have hs222 := St.tk0 hs194
           refine ret_of (.bool false) (by kernel_rfl) ⟨_, ⟨congrArg Value.bool (some_inj hm), rfl⟩, hs222⟩
          obtain ⟨h198p, hm⟩ := iN hm h198
          refine zS 262 h198 ?_
          refine zS 261 h198 ?_
          refine zR 5 ?_
          rcases Bool.eq_false_or_eq_true (r168.1 == p191) with h223 | h223
          ·
           have h223p : ((r168.1 = true) ↔ (p191 = true)) := beq_yes Iff.rfl Iff.rfl h223
           replace hm := ite_yes hm h223p
           refine zS 267 h223 ?_
           refine zS 265 h223 ?_
           refine zS 266 h223 ?_
           refine zR 1 ?_
           refine zL ⟨b149, 0, none⟩ (zu r140.1.k) (hs194.cellAt 0 rfl rfl) ?_
           refine zR 2 ?_
           rcases Bool.eq_false_or_eq_true (decide (r140.1.k = 2)) with h224 | h224
           ·
            obtain ⟨h224p, hm⟩ := iY hm h224
            refine zS 271 h224 ?_
            refine zS 270 h224 ?_
            refine zR 10 ?_
            obtain ⟨r225, h226, hm⟩ := bind_some hm
            refine zC00 hs194 (works16_walk (hm := h226) B _) fun w227 hs229 => ?_
            refine zE 2 (hK195 _ _ ?_)
            refine W.ret ?_
            have hs230 := St.tk0 hs229
            refine ret_of (.bool r225) (by kernel_rfl) ⟨_, ⟨congrArg Value.bool (some_inj hm), rfl⟩, hs230⟩
           obtain ⟨h224p, hm⟩ := iN hm h224
           refine zS 271 h224 ?_
           refine zS 270 h224 ?_
           refine zR 4 ?_
           rcases Bool.eq_false_or_eq_true (!r168.1) with h231 | h231
           rotate_left
           ·
            have h231p : r168.1 = true := (bnot_false h231)
            replace hm := ite_yes hm h231p
            refine zS 275 h231 ?_
            refine zS 273 h231 ?_
            refine zS 274 h231 ?_
            refine zR 6 ?_
            rcases Bool.eq_false_or_eq_true (decide ((1 + (a_.tmod ((2 + (19 : Int) % 20) - 1))) = (1 + (b_.tmod ((2 + (19 : Int) % 20) - 1))))) with h232 | h232
            ·
             obtain ⟨h232p, hm⟩ := iY hm h232
             refine zS 281 h232 ?_
             refine zS 278 h232 ?_
             refine zS 279 h232 ?_
             refine zS 280 h232 ?_
             obtain ⟨r233, h234, hm⟩ := bind_some hm
             refine zC00 hs194 (works16_walk (hm := h234) B _) fun w235 hs237 => ?_
             refine zE 2 (hK195 _ _ ?_)
             refine W.ret ?_
             have hs238 := St.tk0 hs237
             refine ret_of (.bool r233) (by kernel_rfl) ⟨_, ⟨congrArg Value.bool (some_inj hm), rfl⟩, hs238⟩
            obtain ⟨h232p, hm⟩ := iN hm h232
            refine zS 281 h232 ?_
            refine zS 278 h232 ?_
            refine zS 279 h232 ?_
            refine zS 280 h232 ?_
            refine zE 3 (hK195 _ _ ?_)
            refine W.ret ?_
            have hs239 := St.tk0 hs194
            refine ret_of (.bool false) (by kernel_rfl) ⟨_, ⟨congrArg Value.bool (some_inj hm), rfl⟩, hs239⟩
           have h231p : ¬ (r168.1 = true) := ne_true_of_eq_false (bnot_true h231)
           replace hm := ite_no hm h231p
           refine zS 275 h231 ?_
           refine zS 273 h231 ?_
           refine zS 274 h231 ?_
           refine zR 6 ?_
           obtain ⟨r240, h241, hm⟩ := bind_some hm
           refine zC00 hs194 (works16_walk (hm := h241) B _) fun w242 hs244 => ?_
           refine zE 2 (hK195 _ _ ?_)
           refine W.ret ?_
           have hs245 := St.tk0 hs244
           refine ret_of (.bool r240) (by kernel_rfl) ⟨_, ⟨congrArg Value.bool (some_inj hm), rfl⟩, hs245⟩
          have h223p : ¬ ((r168.1 = true) ↔ (p191 = true)) := beq_no Iff.rfl Iff.rfl h223
          replace hm := ite_no hm h223p
          refine zS 267 h223 ?_
          refine zS 265 h223 ?_
          refine zS 266 h223 ?_
          refine zE 17 (hK195 _ _ ?_)
          refine W.ret ?_
          have hs246 := St.tk0 hs194
          refine ret_of (.bool false) (by kernel_rfl) ⟨_, ⟨congrArg Value.bool (some_inj hm), rfl⟩, hs246⟩
         obtain ⟨h197p, hm⟩ := iN hm h197
         refine zS 257 h197 ?_
         refine zS 255 h197 ?_
         refine zS 256 h197 ?_
         refine zE 27 (hK195 _ _ ?_)
         refine W.ret ?_
         have hs247 := St.tk0 hs194
         refine ret_of (.bool false) (by kernel_rfl) ⟨_, ⟨congrArg Value.bool (some_inj hm), rfl⟩, hs247⟩
        obtain ⟨h196p, hm⟩ := iN hm h196
        refine zS 253 h196 ?_
        refine zS 252 h196 ?_
        refine zE 31 (hK195 _ _ ?_)
        refine W.ret ?_
        have hs248 := St.tk0 hs194
        refine ret_of (.bool false) (by kernel_rfl) ⟨_, ⟨congrArg Value.bool (some_inj hm), rfl⟩, hs248⟩
       refine W.sr fun K249 hK249 => ?_
       refine zR 1 ?_
       refine zL ⟨b163, 9, none⟩ (zu r154.1.m) (hs177.cellAt 3 rfl rfl) ?_
       refine zE 1 (hK249 _ _ ?_)
       refine W.cond (!decide (r154.1.m = 0)) (by kernel_rfl) (fun h250 => ?_) (fun h250 => ?_)
       rotate_left
       ·
        have h250p : r154.1.m = 0 := of_decide_eq_true (bnot_false h250)
        replace hm := ite_yes hm h250p
        refine W.skip ?_
        have hs251 := St.f6 hs177
        have hs252 := St.f6 hs251
        have hs253 := St.f6 hs252
        have hs254 := St.f6 hs253
        have hs255 := St.f5 hs254
        have hs256 := St.f5 hs255
        have hs257 := St.f6 hs256
        exact ⟨false, 0, slots_intro _ (by kernel_rfl), hs257, hm⟩
       have h250p : ¬ (r154.1.m = 0) := of_decide_eq_false (bnot_true h250)
       replace hm := ite_no hm h250p
       refine W.region ?_
       refine zR 1 ?_
       refine zG ⟨b28, 0, none⟩ [(zi 1), (zi (2 + (19 : Int) % 20)), (zi (2 + (59 : Int) % 60))] (cells_sub (hs177.heapAt 0 rfl) rfl) ?_
       refine zR 2 ?_
       refine zL ⟨b163, 9, none⟩ (zu r154.1.m) (hs177.cellAt 3 rfl rfl) ?_
       obtain ⟨h258, hm⟩ := need_some hm
       refine zI _ (wrap_i64 h258.1 h258.2) ?_
       obtain ⟨r259, h260, hm⟩ := bind_some hm
       have hs261 := St.f1 hs177
       refine zC11 hs261 (pWithin_walk (vb := b33) (gw := 1) (gi := (2 + (19 : Int) % 20)) (gb := (2 + (59 : Int) % 60)) (a_ := (1 + (a_.tmod ((2 + (19 : Int) % 20) - 1)))) (b_ := r154.1.m) (img := r21) (l := []) (hm := h260) B _) fun w262 hs264 => ?_
       refine zE 5 ?_
       have hs265 := St.f6 hs264
       have hs266 := St.f6 hs265
       have hs267 := St.f6 hs266
       have hs268 := St.f6 hs267
       have hs269 := St.f4 hs268
       have hs270 := St.f5 hs269
       have hs271 := St.f6 hs270
       exact ⟨r259.1, r259.2, slots_intro _ (by kernel_rfl), hs271, hm⟩
      refine W.region ?_
      refine zR 3 ?_
      rcases Bool.eq_false_or_eq_true (!decide (r140.2 = 0)) with h272 | h272
      rotate_left
      ·
       have h272p : r140.2 = 0 := of_decide_eq_true (bnot_false h272)
       replace hm := ite_yes hm h272p
       refine zS 225 h272 ?_
       refine zS 224 h272 ?_
       refine zE 3 ?_
       have hs273 := St.f6 hs173
       have hs274 := St.f6 hs273
       have hs275 := St.f6 hs274
       have hs276 := St.f4 hs275
       have hs277 := St.f5 hs276
       have hs278 := St.f5 hs277
       have hs279 := St.f6 hs278
       exact ⟨(!decide (r154.2 = 0)), slots_intro _ (by kernel_rfl), hs279, hm⟩
      have h272p : ¬ (r140.2 = 0) := of_decide_eq_false (bnot_true h272)
      replace hm := ite_no hm h272p
      refine zS 225 h272 ?_
      refine zS 224 h272 ?_
      refine zE 3 ?_
      have hs280 := St.f6 hs173
      have hs281 := St.f6 hs280
      have hs282 := St.f6 hs281
      have hs283 := St.f4 hs282
      have hs284 := St.f5 hs283
      have hs285 := St.f5 hs284
      have hs286 := St.f6 hs285
      exact ⟨true, slots_intro _ (by kernel_rfl), hs286, hm⟩
     have h128p : ¬ (r119.1 = true) := ne_true_of_eq_false (bnot_true h128)
     replace hm := ite_no hm h128p
     refine W.sr fun K287 hK287 => ?_
     refine zE 1 (hK287 _ _ ?_)
     refine W.ret (ret_seq ?_)
     have hs288 := St.tk0 hs124
     refine ret_of (.bool false) (by kernel_rfl) ⟨_, ⟨congrArg Value.bool (some_inj hm), rfl⟩, hs288⟩
    have h127p : ¬ (r119.2 = 0) := of_decide_eq_false (bnot_true h127)
    replace hm := ite_no hm h127p
    refine zS 183 h127 ?_
    refine zS 182 h127 ?_
    refine zE 3 (hK126 _ _ ?_)
    refine W.cond_true true (by kernel_rfl) rfl ?_
    refine W.sr fun K289 hK289 => ?_
    refine zE 1 (hK289 _ _ ?_)
    refine W.ret (ret_seq ?_)
    have hs290 := St.tk0 hs124
    refine ret_of (.bool false) (by kernel_rfl) ⟨_, ⟨congrArg Value.bool (some_inj hm), rfl⟩, hs290⟩
   refine W.sr fun K291 hK291 => ?_
   refine zR 4 ?_
   rcases Bool.eq_false_or_eq_true (!decide (r41.2 = r83.2.2.2)) with h292 | h292
   rotate_left
   ·
    have h292p : r41.2 = r83.2.2.2 := of_decide_eq_true (bnot_false h292)
    replace hm := ite_yes hm h292p
    refine zS 145 h292 ?_
    refine zS 144 h292 ?_
    refine zR 3 ?_
    rcases Bool.eq_false_or_eq_true (decide (r41.2 = 0)) with h293 | h293
    ·
     obtain ⟨h293p, hm⟩ := iY hm h293
     refine zS 148 h293 ?_
     refine zS 147 h293 ?_
     refine zR 1 ?_
     refine zL ⟨b91, 1, none⟩ (zi r83.2.1) (hs110.cellAt 1 rfl rfl) ?_
     refine zR 5 ?_
     rcases Bool.eq_false_or_eq_true (!decide (r83.2.1 = r41.1)) with h294 | h294
     rotate_left
     ·
      have h294p : r83.2.1 = r41.1 := of_decide_eq_true (bnot_false h294)
      replace hm := ite_yes hm h294p
      refine zS 155 h294 ?_
      refine zS 152 h294 ?_
      refine zS 153 h294 ?_
      refine zS 154 h294 ?_
      refine zR 4 ?_
      rcases Bool.eq_false_or_eq_true (!decide (r105.2 = 0)) with h295 | h295
      rotate_left
      ·
       have h295p : r105.2 = 0 := of_decide_eq_true (bnot_false h295)
       replace hm := ite_yes hm h295p
       refine zS 159 h295 ?_
       refine zS 157 h295 ?_
       refine zS 158 h295 ?_
       refine zR 5 ?_
       rcases Bool.eq_false_or_eq_true (!decide (r105.1 = r47.1)) with h296 | h296
       rotate_left
       ·
        have h296p : r105.1 = r47.1 := of_decide_eq_true (bnot_false h296)
        replace hm := ite_yes hm h296p
        refine zS 164 h296 ?_
        refine zS 162 h296 ?_
        refine zS 163 h296 ?_
        refine zR 4 ?_
        obtain ⟨h297, hm⟩ := need_some hm
        refine zI _ (wrap_i64 h297.1 h297.2) ?_
        obtain ⟨h299, hm⟩ := need_some hm
        have hk298 := lt_toNat h299
        refine ops_R (runs_index (a := a53) (n := r55.1.length) (z := ((r55.1.length : Int) - 1)) (size := 1) (((r55.1.length : Int) - 1).toNat) (nat_of h299.1) hk298 (kStr.addr (St.kcells kStr hs110 2 rfl) hk298) (by kernel_rfl)) ?_
        refine zL ((adr a53 ((((r55.1.length : Int) - 1).toNat) * 1)).add 0) (.string (r55.1.getD (((r55.1.length : Int) - 1).toNat) ByteArray.empty)) (kStr.at (St.kcells kStr hs110 2 rfl) hk298 ByteArray.empty 0 rfl) ?_
        refine zE 2 (hK291 _ _ ?_)
        refine W.cond (!(r47.2.1.toList == (r55.1.getD (((r55.1.length : Int) - 1).toNat) ByteArray.empty).toList)) (by kernel_rfl) (fun h300 => ?_) (fun h300 => ?_)
        rotate_left
        ·
         have h300p : (r47.2.1.toList == (r55.1.getD (((r55.1.length : Int) - 1).toNat) ByteArray.empty).toList) = true := (bnot_false h300)
         replace hm := ite_yes hm h300p
         refine W.skip ?_
         have hs301 := St.f4 hs110
         have hs302 := St.f3 hs301
         have hs303 := St.f3 hs302
         have hs304 := St.f3 hs303
         have hs305 := St.f4 hs304
         exact ⟨slots_intro _ (by kernel_rfl), hs305, hm⟩
        have h300p : ¬ ((r47.2.1.toList == (r55.1.getD (((r55.1.length : Int) - 1).toNat) ByteArray.empty).toList) = true) := ne_true_of_eq_false (bnot_true h300)
        replace hm := ite_no hm h300p
        refine W.sr fun K306 hK306 => ?_
        refine zE 1 (hK306 _ _ ?_)
        refine W.ret (ret_seq ?_)
        have hs307 := St.tk0 hs110
        refine ret_of (.bool false) (by kernel_rfl) ⟨_, ⟨congrArg Value.bool (some_inj hm), rfl⟩, hs307⟩
       have h296p : ¬ (r105.1 = r47.1) := of_decide_eq_false (bnot_true h296)
       replace hm := ite_no hm h296p
       refine zS 164 h296 ?_
       refine zS 162 h296 ?_
       refine zS 163 h296 ?_
       refine zE 9 (hK291 _ _ ?_)
       refine W.cond_true true (by kernel_rfl) rfl ?_
       refine W.sr fun K308 hK308 => ?_
       refine zE 1 (hK308 _ _ ?_)
       refine W.ret (ret_seq ?_)
       have hs309 := St.tk0 hs110
       refine ret_of (.bool false) (by kernel_rfl) ⟨_, ⟨congrArg Value.bool (some_inj hm), rfl⟩, hs309⟩
      have h295p : ¬ (r105.2 = 0) := of_decide_eq_false (bnot_true h295)
      replace hm := ite_no hm h295p
      refine zS 159 h295 ?_
      refine zS 157 h295 ?_
      refine zS 158 h295 ?_
      refine zE 14 (hK291 _ _ ?_)
      refine W.cond_true true (by kernel_rfl) rfl ?_
      refine W.sr fun K310 hK310 => ?_
      refine zE 1 (hK310 _ _ ?_)
      refine W.ret (ret_seq ?_)
      have hs311 := St.tk0 hs110
      refine ret_of (.bool false) (by kernel_rfl) ⟨_, ⟨congrArg Value.bool (some_inj hm), rfl⟩, hs311⟩
     have h294p : ¬ (r83.2.1 = r41.1) := of_decide_eq_false (bnot_true h294)
     replace hm := ite_no hm h294p
     refine zS 155 h294 ?_
     refine zS 152 h294 ?_
     refine zS 153 h294 ?_
     refine zS 154 h294 ?_
     refine zE 18 (hK291 _ _ ?_)
     refine W.cond_true true (by kernel_rfl) rfl ?_
     refine W.sr fun K312 hK312 => ?_
     refine zE 1 (hK312 _ _ ?_)
     refine W.ret (ret_seq ?_)
     have hs313 := St.tk0 hs110
     refine ret_of (.bool false) (by kernel_rfl) ⟨_, ⟨congrArg Value.bool (some_inj hm), rfl⟩, hs313⟩
    obtain ⟨h293p, hm⟩ := iN hm h293
    refine zS 148 h293 ?_
    refine zS 147 h293 ?_
    refine zR 11 ?_
    rcases Bool.eq_false_or_eq_true (!decide (r105.2 = 0)) with h314 | h314
    rotate_left
    ·
     have h314p : r105.2 = 0 := of_decide_eq_true (bnot_false h314)
     replace hm := ite_yes hm h314p
     refine zS 159 h314 ?_
     refine zS 157 h314 ?_
     refine zS 158 h314 ?_
     refine zR 5 ?_
     rcases Bool.eq_false_or_eq_true (!decide (r105.1 = r47.1)) with h315 | h315
     rotate_left
     ·
      have h315p : r105.1 = r47.1 := of_decide_eq_true (bnot_false h315)
      replace hm := ite_yes hm h315p
      refine zS 164 h315 ?_
      refine zS 162 h315 ?_
      refine zS 163 h315 ?_
      refine zR 4 ?_
      obtain ⟨h316, hm⟩ := need_some hm
      refine zI _ (wrap_i64 h316.1 h316.2) ?_
      obtain ⟨h318, hm⟩ := need_some hm
      have hk317 := lt_toNat h318
      refine ops_R (runs_index (a := a53) (n := r55.1.length) (z := ((r55.1.length : Int) - 1)) (size := 1) (((r55.1.length : Int) - 1).toNat) (nat_of h318.1) hk317 (kStr.addr (St.kcells kStr hs110 2 rfl) hk317) (by kernel_rfl)) ?_
      refine zL ((adr a53 ((((r55.1.length : Int) - 1).toNat) * 1)).add 0) (.string (r55.1.getD (((r55.1.length : Int) - 1).toNat) ByteArray.empty)) (kStr.at (St.kcells kStr hs110 2 rfl) hk317 ByteArray.empty 0 rfl) ?_
      refine zE 2 (hK291 _ _ ?_)
      refine W.cond (!(r47.2.1.toList == (r55.1.getD (((r55.1.length : Int) - 1).toNat) ByteArray.empty).toList)) (by kernel_rfl) (fun h319 => ?_) (fun h319 => ?_)
      rotate_left
      ·
       have h319p : (r47.2.1.toList == (r55.1.getD (((r55.1.length : Int) - 1).toNat) ByteArray.empty).toList) = true := (bnot_false h319)
       replace hm := ite_yes hm h319p
       refine W.skip ?_
       have hs320 := St.f4 hs110
       have hs321 := St.f3 hs320
       have hs322 := St.f3 hs321
       have hs323 := St.f3 hs322
       have hs324 := St.f4 hs323
       exact ⟨slots_intro _ (by kernel_rfl), hs324, hm⟩
      have h319p : ¬ ((r47.2.1.toList == (r55.1.getD (((r55.1.length : Int) - 1).toNat) ByteArray.empty).toList) = true) := ne_true_of_eq_false (bnot_true h319)
      replace hm := ite_no hm h319p
      refine W.sr fun K325 hK325 => ?_
      refine zE 1 (hK325 _ _ ?_)
      refine W.ret (ret_seq ?_)
      have hs326 := St.tk0 hs110
      refine ret_of (.bool false) (by kernel_rfl) ⟨_, ⟨congrArg Value.bool (some_inj hm), rfl⟩, hs326⟩
     have h315p : ¬ (r105.1 = r47.1) := of_decide_eq_false (bnot_true h315)
     replace hm := ite_no hm h315p
     refine zS 164 h315 ?_
     refine zS 162 h315 ?_
     refine zS 163 h315 ?_
     refine zE 9 (hK291 _ _ ?_)
     refine W.cond_true true (by kernel_rfl) rfl ?_
     refine W.sr fun K327 hK327 => ?_
     refine zE 1 (hK327 _ _ ?_)
     refine W.ret (ret_seq ?_)
     have hs328 := St.tk0 hs110
     refine ret_of (.bool false) (by kernel_rfl) ⟨_, ⟨congrArg Value.bool (some_inj hm), rfl⟩, hs328⟩
    have h314p : ¬ (r105.2 = 0) := of_decide_eq_false (bnot_true h314)
    replace hm := ite_no hm h314p
    refine zS 159 h314 ?_
    refine zS 157 h314 ?_
    refine zS 158 h314 ?_
    refine zE 14 (hK291 _ _ ?_)
    refine W.cond_true true (by kernel_rfl) rfl ?_
    refine W.sr fun K329 hK329 => ?_
    refine zE 1 (hK329 _ _ ?_)
    refine W.ret (ret_seq ?_)
    have hs330 := St.tk0 hs110
    refine ret_of (.bool false) (by kernel_rfl) ⟨_, ⟨congrArg Value.bool (some_inj hm), rfl⟩, hs330⟩
   have h292p : ¬ (r41.2 = r83.2.2.2) := of_decide_eq_false (bnot_true h292)
   replace hm := ite_no hm h292p
   refine zS 145 h292 ?_
   refine zS 144 h292 ?_
   refine zE 28 (hK291 _ _ ?_)
   refine W.cond_true true (by kernel_rfl) rfl ?_
   refine W.sr fun K331 hK331 => ?_
   refine zE 1 (hK331 _ _ ?_)
   refine W.ret (ret_seq ?_)
   have hs332 := St.tk0 hs110
   refine ret_of (.bool false) (by kernel_rfl) ⟨_, ⟨congrArg Value.bool (some_inj hm), rfl⟩, hs332⟩
  have h81p : ¬ (r47.2.2 = 0) := of_decide_eq_false (bnot_true h81)
  replace hm := ite_no hm h81p
  refine W.sr fun K333 hK333 => ?_
  refine zR 4 ?_
  rcases Bool.eq_false_or_eq_true (decide (r41.2 = r47.2.2)) with h334 | h334
  ·
   obtain ⟨h334p, hm⟩ := iY hm h334
   refine zS 118 h334 ?_
   refine zS 117 h334 ?_
   obtain ⟨r335, h336, hm⟩ := bind_some hm
   refine zC00 hs59 (works16_walk (hm := h336) B _) fun w337 hs339 => ?_
   refine zE 2 (hK333 _ _ ?_)
   refine W.ret (ret_seq ?_)
   have hs340 := St.tk0 hs339
   refine ret_of (.bool r335) (by kernel_rfl) ⟨_, ⟨congrArg Value.bool (some_inj hm), rfl⟩, hs340⟩
  obtain ⟨h334p, hm⟩ := iN hm h334
  refine zS 118 h334 ?_
  refine zS 117 h334 ?_
  refine zE 3 (hK333 _ _ ?_)
  refine W.ret (ret_seq ?_)
  have hs341 := St.tk0 hs59
  refine ret_of (.bool false) (by kernel_rfl) ⟨_, ⟨congrArg Value.bool (some_inj hm), rfl⟩, hs341⟩
 have h62p : ¬ (r55.2 = 0) := of_decide_eq_false (bnot_true h62)
 replace hm := ite_no hm h62p
 refine W.sr fun K342 hK342 => ?_
 refine zR 4 ?_
 rcases Bool.eq_false_or_eq_true (decide (r41.2 = r55.2)) with h343 | h343
 ·
  obtain ⟨h343p, hm⟩ := iY hm h343
  refine zS 77 h343 ?_
  refine zS 76 h343 ?_
  refine zR 5 ?_
  rcases Bool.eq_false_or_eq_true (decide (r47.2.2 = r55.2)) with h344 | h344
  ·
   obtain ⟨h344p, hm⟩ := iY hm h344
   refine zS 82 h344 ?_
   refine zS 80 h344 ?_
   refine zS 81 h344 ?_
   refine zR 4 ?_
   rcases Bool.eq_false_or_eq_true (decide (r41.1 = 0)) with h345 | h345
   ·
    obtain ⟨h345p, hm⟩ := iY hm h345
    refine zS 86 h345 ?_
    refine zS 84 h345 ?_
    refine zS 85 h345 ?_
    refine zR 4 ?_
    rcases Bool.eq_false_or_eq_true (decide (r47.1 = 0)) with h346 | h346
    ·
     obtain ⟨h346p, hm⟩ := iY hm h346
     refine zS 90 h346 ?_
     refine zS 88 h346 ?_
     refine zS 89 h346 ?_
     refine zR 4 ?_
     rcases Bool.eq_false_or_eq_true (r47.2.1.toList == ByteArray.empty.toList) with h347 | h347
     ·
      have h347p : (r47.2.1.toList == ByteArray.empty.toList) = true := h347
      replace hm := ite_yes hm h347p
      refine zS 94 h347 ?_
      refine zS 92 h347 ?_
      refine zS 93 h347 ?_
      obtain ⟨r348, h349, hm⟩ := bind_some hm
      refine zC00 hs59 (works16_walk (hm := h349) B _) fun w350 hs352 => ?_
      refine zE 2 (hK342 _ _ ?_)
      refine W.ret (ret_seq ?_)
      have hs353 := St.tk0 hs352
      refine ret_of (.bool r348) (by kernel_rfl) ⟨_, ⟨congrArg Value.bool (some_inj hm), rfl⟩, hs353⟩
     have h347p : ¬ ((r47.2.1.toList == ByteArray.empty.toList) = true) := ne_true_of_eq_false h347
     replace hm := ite_no hm h347p
     refine zS 94 h347 ?_
     refine zS 92 h347 ?_
     refine zS 93 h347 ?_
     refine zE 3 (hK342 _ _ ?_)
     refine W.ret (ret_seq ?_)
     have hs354 := St.tk0 hs59
     refine ret_of (.bool false) (by kernel_rfl) ⟨_, ⟨congrArg Value.bool (some_inj hm), rfl⟩, hs354⟩
    obtain ⟨h346p, hm⟩ := iN hm h346
    refine zS 90 h346 ?_
    refine zS 88 h346 ?_
    refine zS 89 h346 ?_
    refine zE 7 (hK342 _ _ ?_)
    refine W.ret (ret_seq ?_)
    have hs355 := St.tk0 hs59
    refine ret_of (.bool false) (by kernel_rfl) ⟨_, ⟨congrArg Value.bool (some_inj hm), rfl⟩, hs355⟩
   obtain ⟨h345p, hm⟩ := iN hm h345
   refine zS 86 h345 ?_
   refine zS 84 h345 ?_
   refine zS 85 h345 ?_
   refine zE 11 (hK342 _ _ ?_)
   refine W.ret (ret_seq ?_)
   have hs356 := St.tk0 hs59
   refine ret_of (.bool false) (by kernel_rfl) ⟨_, ⟨congrArg Value.bool (some_inj hm), rfl⟩, hs356⟩
  obtain ⟨h344p, hm⟩ := iN hm h344
  refine zS 82 h344 ?_
  refine zS 80 h344 ?_
  refine zS 81 h344 ?_
  refine zE 15 (hK342 _ _ ?_)
  refine W.ret (ret_seq ?_)
  have hs357 := St.tk0 hs59
  refine ret_of (.bool false) (by kernel_rfl) ⟨_, ⟨congrArg Value.bool (some_inj hm), rfl⟩, hs357⟩
 obtain ⟨h343p, hm⟩ := iN hm h343
 refine zS 77 h343 ?_
 refine zS 76 h343 ?_
 refine zE 20 (hK342 _ _ ?_)
 refine W.ret (ret_seq ?_)
 have hs358 := St.tk0 hs59
 refine ret_of (.bool false) (by kernel_rfl) ⟨_, ⟨congrArg Value.bool (some_inj hm), rfl⟩, hs358⟩
end Go.Proofs.YtmmclabkkigiaaaGreat

namespace Go.Proofs.YtmmclabkkigiaaaGreat
open Go Go.RowKit
section
variable {q : List Int} {P : Int} {a_ b_ : Int}
theorem pathparts_J3_ok {x : Nd × Int} {w : Bool × Int} {c d : Int} {p1 : Bool} {p2 : Int} (ea : a_.tmod 20 + 1 = c) (eb : b_.tmod 20 + 1 = d) (h2 : w.2 = 0) (h3 : p2 = 0) (hc : c = d → w.1 = true) (hn : c ≠ d → w.1 = p1) (hk : w.1 = true → c = d ∨ x.1.k = 2) : Ok (· = true) (pathparts_J3 a_ b_ x w p1 p2) := by
  unfold pathparts_J3
  rw [show (2 : Int) + 19 % 20 - 1 = 20 by omega, show 1 + a_.tmod 20 = c by omega, show 1 + b_.tmod 20 = d by omega]
  refine Ok.yes h2 (Ok.yes h3 (Ok.ite (fun e => Ok.yes (by rw [hc e]; decide) (Ok.ite (fun _ => works16_stop) fun _ => Ok.ite (fun _ => Ok.yes e works16_stop) fun _ => works16_stop)) fun e => Ok.yes (by rw [hn e]) (Ok.ite (fun _ => works16_stop) fun k2 => Ok.ite (fun t => ?_) fun _ => works16_stop)))
  rcases hk t with y | y
  · exact absurd y e
  · exact absurd y k2
theorem pathparts_J1_ok (h : TI q P) (ha : 0 ≤ a_ ∧ a_ ≤ 255) (hb : 0 ≤ b_ ∧ b_ ≤ 255) {r : Int × ByteArray × Int} (h0 : (igetM q [] 1 21 61 r.1).2 = 0) (hk : (igetM q [] 1 21 61 r.1).1.k = 2) : Ok (· = true) (pathparts_J1 a_ b_ q r) := by
  have et : a_.tmod 20 = a_ % 20 := Int.tmod_eq_emod_of_nonneg ha.1
  have eb : b_.tmod 20 = b_ % 20 := Int.tmod_eq_emod_of_nonneg hb.1
  obtain ⟨c, hc⟩ : ∃ c, c = 1 + a_.tmod 20 := ⟨_, rfl⟩
  obtain ⟨d, hd⟩ : ∃ d, d = 1 + b_.tmod 20 := ⟨_, rfl⟩
  have hcr : 1 ≤ c ∧ c < 21 := by omega
  have hdr : 1 ≤ d ∧ d < 21 := by omega
  unfold pathparts_J1
  rw [show (2 : Int) + 19 % 20 - 1 = 20 by omega, show (2 : Int) + 19 % 20 = 21 by omega, show (2 : Int) + 59 % 60 = 61 by omega, ← hc, ← hd]
  have hri := iget_in h0
  obtain ⟨B, i1, i2, i3, i4, i5, i6⟩ := win h 1 21 r.1 h0 (by omega)
  refine Ok.got15 (within_of h.root.1 i1 (by omega)) (Ok.yes rfl (Ok.yes (i6 rfl hk) (Ok.need (by omega) (Ok.need (by omega) (Ok.need (by omega) (Ok.need (by omega) (Ok.need (by omega) (Ok.need (by omega) (Ok.need (by omega) (Ok.need (by omega) (Ok.name fun x hx => Ok.name fun y hy => ?_)))))))))))
  have J2 : ∀ {w : Bool × Int}, (x.2 ≠ 0 ∨ y.2 ≠ 0) → w = (false, 4) → Ok (· = true) (pathparts_J2 a_ b_ q x y w true) := by
    rintro w _ rfl
    unfold pathparts_J2
    exact Ok.yes rfl (Ok.yes rfl (Ok.no (by decide) works16_stop))
  by_cases hx0 : x.2 = 0
  · by_cases hy0 : y.2 = 0
    · have x0 : (igetM q [] 1 21 61 c).2 = 0 := by rw [← hx]; exact hx0
      have y0 : (igetM q [] 1 21 61 d).2 = 0 := by rw [← hy]; exact hy0
      obtain ⟨D, j1, j2, j3, j4, j5, j6⟩ := win h c 21 d y0 (by omega)
      refine Ok.got15 (within_of x0 j1 (by omega)) (Ok.yes hx0 ?_)
      rw [decide_eq_true hy0]
      unfold pathparts_J2
      rw [show (2 : Int) + 19 % 20 - 1 = 20 by omega, show (2 : Int) + 19 % 20 = 21 by omega, show (2 : Int) + 59 % 60 = 61 by omega, ← hc]
      refine Ok.no (by decide) (Ok.ite (fun hm => ?_) fun hm => ?_)
      · rw [hy] at hm
        exact pathparts_J3_ok (c := c) (d := d) (by omega) (by omega) rfl rfl j2 (fun e => j3 e hm) fun t => by rw [hx]; exact j5 t
      · have hyU : 0 ≤ y.1.m ∧ y.1.m < 21 := by
          rw [hy]
          exact iget_m (VI.nil h.u (by have := h.len; omega)) y0
        refine Ok.need (by omega) ?_
        rw [hy] at hm hyU ⊢
        by_cases hcd : c = d
        · obtain ⟨_, hr⟩ := h.rest d (by
            by_cases e : d = 1
            · rw [e] at hm; exact absurd h.root.2.2 hm
            · omega) (by omega) y0
          rcases hr with ⟨_, e⟩ | ⟨_, _, m2, _⟩
          · exact absurd e hm
          · obtain ⟨E, l1, _⟩ := win h c 21 _ m2 (by omega)
            exact Ok.got15 (within_of x0 l1 (by omega)) (pathparts_J3_ok (c := c) (d := d) (by omega) (by omega) rfl rfl j2 (fun e => absurd hcd e) fun t => by rw [hx]; exact j5 t)
        · exact Ok.got15 (within_of x0 (j4 hcd hm) (by omega)) (pathparts_J3_ok (c := c) (d := d) (by omega) (by omega) rfl rfl j2 (fun _ => rfl) fun t => by rw [hx]; exact j5 t)
    · refine Ok.got15 (within_bad h hcr hdr (.inr (by rw [← hy]; exact hy0))) (Ok.yes hx0 ?_)
      rw [decide_eq_false hy0]
      exact J2 (.inr hy0) rfl
  · exact Ok.got15 (within_bad h hcr hdr (.inl (by rw [← hx]; exact hx0))) (Ok.no hx0 (J2 (.inl hx0) rfl))
theorem wk_at (q : List Int) (n : Int) (x : ByteArray) : wk q n [x] = if (fd q n x).2.2.2 = 0 then ((fd q n x).2.1, 0) else (0, (fd q n x).2.2.2) := rfl
end
theorem pathparts_law {ms : List TMk} {tx_ : ByteArray} {a_ b_ : Int} (ha : 0 ≤ a_ ∧ a_ ≤ 255) (hb : 0 ≤ b_ ∧ b_ ≤ 255) (hm : ∀ x ∈ ms, good_Mk x) : pathparts_M ms tx_ a_ b_ = some true := by
  refine Ok.true ?_
  unfold pathparts_M
  refine Ok.ite (fun _ => works16_stop) fun h1 => Ok.ite (fun _ => works16_stop) fun h2 => Ok.bind (tree_TI hm (by omega)) fun q hq => ?_
  obtain ⟨P, h⟩ := hq
  have hlen := h.len
  have hsl := spl_len tx_
  rw [show (2 : Int) + 19 % 20 = 21 by omega, show (2 : Int) + 59 % 60 = 61 by omega]
  refine Ok.need (by omega) (Ok.got15 (tWalk h tx_) (Ok.got15 (tParent h tx_) (Ok.got15 (psplit_eq tx_) ?_)))
  by_cases h0 : (spl tx_).2 = 0
  · simp only [if_pos h0]
    by_cases hn : ((spl tx_).1.length : Int) = 0
    · simp only [if_pos hn]
      have e : (spl tx_).1 = [] := List.length_eq_zero_iff.1 (by omega)
      rw [e]
      exact Ok.yes (by first | rfl | trivial) (Ok.yes (by first | rfl | trivial) (Ok.yes (by first | rfl | trivial) works16_stop))
    · simp only [if_neg hn]
      obtain ⟨l, hl, hs, hall, hj, _⟩ := spl_yes h0
      obtain ⟨xs, x, hxs⟩ : ∃ xs x, (spl tx_).1 = xs ++ [x] := by
        rcases List.eq_nil_or_concat (spl tx_).1 with e | ⟨xs, x, e⟩
        · rw [e] at hn; exact absurd rfl hn
        · exact ⟨xs, x, by rw [e, List.concat_eq_append]⟩
      have hxl : (spl tx_).1.length = xs.length + 1 := by rw [hxs]; simp
      have ht : (spl tx_).1.take ((spl tx_).1.length - 1) = xs := by rw [hxl, hxs]; simp
      have hg : (spl tx_).1.getD ((spl tx_).1.length - 1) ByteArray.empty = x := by rw [hxl, hxs]; simp [List.getD]
      have ez : (((spl tx_).1.length : Int) - 1).toNat = (spl tx_).1.length - 1 := by omega
      have hw : wk q 1 (spl tx_).1 = if (wk q 1 xs).2 = 0 then wk q (wk q 1 xs).1 [x] else wk q 1 xs := by rw [hxs]; exact wk_snoc q x xs 1
      have hax : xs.all mayB = true := by
        rw [hxs, List.all_append] at hall
        exact (Bool.and_eq_true _ _ ▸ hall).1
      have hsx : ∀ y ∈ (spl tx_).1, y.size ≤ 1000 := fun y hy => by
        have := mayB_iff.1 (List.all_eq_true.1 hall y hy)
        omega
      have hpx : (pjS xs).size ≤ 200 := by
        cases xs with
        | nil => decide +kernel
        | cons z zs =>
          have e1 : (pjS (z :: zs)).size ≤ (pjS (spl tx_).1).size := by
            rw [hxs, List.cons_append, ← data_len, ← data_len, pjS_data, pjS_data]
            simp [Lib.joinTail]
          rw [hj] at e1
          omega
      have hjoin : pjoin_M xs = some (pjS xs) := by
        rw [pjoin_eq (by omega) fun y hy => hsx y (by rw [hxs]; simp [hy])]
        unfold pj
        rw [if_pos ⟨hax, hpx⟩]
      have hws : pWalk_M q [] 1 21 61 (pjS xs) = some (wk q 1 xs) := by
        rw [tWalk h, spl_join hax hpx, if_pos rfl]
      rw [ht, hg]
      obtain ⟨f1, f2⟩ := fd_eq h (wk q 1 xs).1 x
      unfold par
      by_cases hr : (wk q 1 xs).2 = 0
      · rw [if_pos hr] at hw ⊢
        by_cases hi : (igetM q [] 1 21 61 (wk q 1 xs).1).2 = 0
        · rw [if_pos hi]
          by_cases hk : (igetM q [] 1 21 61 (wk q 1 xs).1).1.k = 2
          · rw [if_pos hk]
            have J := pathparts_J1_ok (a_ := a_) (b_ := b_) h ha hb (r := ((wk q 1 xs).1, x, 0)) hi hk
            refine Ok.yes rfl (Ok.got15 f1 (Ok.need (by omega) (Ok.need (by omega) ?_)))
            rw [ez, ht, hg]
            refine Ok.got15 hjoin (Ok.got15 hws ?_)
            rw [hw, wk_at]
            by_cases hf : (fd q (wk q 1 xs).1 x).2.2.2 = 0
            · rw [if_pos hf]
              exact Ok.yes hf.symm (Ok.yes rfl (Ok.yes rfl (Ok.yes hr (Ok.yes rfl (Ok.need (by omega) (Ok.need (by omega) (Ok.yes (beq_toList.2 rfl) J)))))))
            · rw [if_neg hf]
              exact Ok.yes rfl (Ok.no hf (Ok.yes hr (Ok.yes rfl (Ok.need (by omega) (Ok.need (by omega) (Ok.yes (beq_toList.2 rfl) J))))))
          · rw [if_neg hk]
            refine Ok.no (by decide) (Ok.yes ?_ works16_stop)
            have e10 : (fd q (wk q 1 xs).1 x).2.2.2 = 10 := by
              rcases f2 with ⟨a, _⟩ | ⟨_, _, a⟩ | ⟨_, a⟩
              · exact absurd hi a
              · exact a
              · exact absurd a hk
            rw [hw, wk_at, e10]
            rfl
        · rw [if_neg hi]
          refine Ok.no hi (Ok.yes ?_ works16_stop)
          have e10 : (fd q (wk q 1 xs).1 x).2.2.2 = (igetM q [] 1 21 61 (wk q 1 xs).1).2 := by
            rcases f2 with ⟨_, a⟩ | ⟨a, _⟩ | ⟨a, _⟩
            · exact a
            · exact absurd a hi
            · exact absurd a hi
          rw [hw, wk_at, e10, if_neg hi]
      · rw [if_neg hr] at hw ⊢
        exact Ok.no hr (Ok.yes (by rw [hw]) works16_stop)
  · simp only [if_neg h0]
    exact (Ok.yes (by first | rfl | trivial) (Ok.yes (by first | rfl | trivial) (Ok.yes (by first | rfl | trivial) (Ok.yes (by first | rfl | trivial) (Ok.yes (beq_toList.2 rfl) works16_stop)))))
end Go.Proofs.YtmmclabkkigiaaaGreat

namespace Go.Proofs.YtmmclabkkigiaaaGreat
open Go.ChangeShapes Go.WideShapes Go.ChangeAt Go.RowKit Go.Deep
inductive Leaf where
  | int (k : IntKind)
  | bool
def LeafOk : Leaf → Value → Prop
  | .int k, v => ∃ z, v = .int k z ∧ (Lit.int k z).wf = true
  | .bool, v => ∃ b, v = .bool b
def LeavesOk : List Leaf → List Value → Prop
  | [], [] => True
  | k :: ks, v :: vs => LeafOk k v ∧ LeavesOk ks vs
  | _, _ => False
theorem LeavesOk.append : ∀ {ks ks' : List Leaf} {vs vs' : List Value}, LeavesOk ks vs → LeavesOk ks' vs' → LeavesOk (ks ++ ks') (vs ++ vs')
  | [], _, [], _, _, h => h
  | _ :: _, _, _ :: _, _, h, h' => ⟨h.1, LeavesOk.append h.2 h'⟩
def leavesF (P : Program) (lv : TypeId → Option (List Leaf)) : Nat → List Field → Option (List Leaf)
  | _, [] => some []
  | off, f :: fs => match lv f.type with
    | some l => if f.offset = off ∧ P.cellsOf f.type = l.length then (leavesF P lv (off + l.length) fs).map (l ++ ·) else none
    | none => none
def leaves (P : Program) : Nat → TypeId → Option (List Leaf)
  | 0, _ => none
  | m + 1, t => match P.underlying t with
    | some (.int k) => some [.int k]
    | some .bool => some [.bool]
    | some (.struct fs) => match leavesF P (leaves P m) 0 fs.toList with
      | some ks => if P.cellsOf t = ks.length then some ks else none
      | none => none
    | some (.array n e) => match leaves P m e with
      | some l => if P.cellsOf e = l.length ∧ P.cellsOf t = n * l.length then some ((List.replicate n l).flatten) else none
      | none => none
    | _ => none
section
variable {H : Type} {enc : TypeId × Value → H} {P : Program} {w : World} {base : Nat} {sp : Nat → Bool} {held : Bool}
theorem leavesF_ok {lv : TypeId → Option (List Leaf)} (hlv : ∀ (t : TypeId) (ks : List Leaf) (n : Nat) (cs : List Value) (y : DataW H × List MemPlace), lv t = some ks → DataW.trod enc P w base sp held n t cs = some y → LeavesOk ks cs) {cs : List Value} :
    ∀ (fs : List Field) (off : Nat) (ks : List Leaf), leavesF P lv off fs = some ks → (∀ (i : Nat) (f : Field), fs[i]? = some f → ∃ n y, DataW.trod enc P w base sp held n f.type ((cs.drop f.offset).take (P.cellsOf f.type)) = some y) →
      LeavesOk ks ((cs.drop off).take ks.length)
  | [], off, ks, h, _ => by
    simp only [leavesF, Option.some.injEq] at h
    subst h
    simp [LeavesOk]
  | f :: fs, off, ks, h, ht => by
    unfold leavesF at h
    split at h
    · rename_i l hl
      split at h
      · rename_i hc
        simp only [Option.map_eq_some_iff] at h
        obtain ⟨ks', hk', rfl⟩ := h
        obtain ⟨n, y, hy⟩ := ht 0 f rfl
        rw [hc.1, hc.2] at hy
        have h1 := hlv _ _ _ _ _ hl hy
        have h2 := leavesF_ok hlv fs (off + l.length) ks' hk' (fun i g hg => ht (i + 1) g (by simpa using hg))
        have e : (cs.drop off).take (l ++ ks').length = (cs.drop off).take l.length ++ (cs.drop (off + l.length)).take ks'.length := by
          rw [List.length_append, List.take_add, List.drop_drop]
        rw [e]
        exact h1.append h2
      · cases h
    · cases h
theorem leavesA_ok {l : List Leaf} {cs : List Value} : ∀ n : Nat, (∀ i, i < n → LeavesOk l ((cs.drop (i * l.length)).take l.length)) → LeavesOk ((List.replicate n l).flatten) (cs.take (n * l.length))
  | 0, _ => by simp [LeavesOk]
  | n + 1, h => by
    have h1 := leavesA_ok n (fun i hi => h i (by omega))
    have h2 := h n (by omega)
    have e1 : (List.replicate (n + 1) l).flatten = (List.replicate n l).flatten ++ l := by
      rw [List.replicate_succ', List.flatten_append]
      simp
    have e2 : cs.take ((n + 1) * l.length) = cs.take (n * l.length) ++ (cs.drop (n * l.length)).take l.length := by
      rw [Nat.add_mul, Nat.one_mul, List.take_add]
    rw [e1, e2]
    exact h1.append h2
theorem leaves_ok : ∀ (m : Nat) (t : TypeId) (ks : List Leaf) (n : Nat) (cs : List Value) (y : DataW H × List MemPlace), leaves P m t = some ks → DataW.trod enc P w base sp held n t cs = some y → LeavesOk ks cs
  | 0, t, ks, n, cs, y, h, _ => by simp [leaves] at h
  | m + 1, t, ks, n, cs, y, h, hy => by
    unfold leaves at h
    split at h
    · rename_i k hu
      cases h
      obtain ⟨z, rfl, _, hz⟩ := DataW.trod_int hu hy
      exact ⟨⟨z, rfl, hz⟩, trivial⟩
    · rename_i hu
      cases h
      cases n with
      | zero => simp [DataW.trod] at hy
      | succ n =>
        unfold DataW.trod at hy
        rw [hu] at hy
        split at hy <;> simp_all [LeavesOk, LeafOk]
    · rename_i fs hu
      split at h
      · rename_i ks' hks
        split at h
        · rename_i hc
          cases h
          obtain ⟨xs, n', rfl, _, hlen, hxl, hf⟩ := DataW.trod_struct hu hy
          have h1 := leavesF_ok (cs := cs) (leaves_ok m) fs.toList 0 _ hks (fun i f hi => by
            have hi' : fs[i]? = some f := by simpa using hi
            have := hf i f hi'
            have hil : i < xs.length := by rw [hxl]; exact (Array.getElem?_eq_some_iff.1 hi').1
            rw [List.getElem?_eq_getElem hil] at this
            exact ⟨_, _, this⟩)
          simpa [← hc, ← hlen] using h1
        · cases h
      · cases h
    · rename_i k e hu
      split at h
      · rename_i l hl
        split at h
        · rename_i hc
          cases h
          obtain ⟨xs, n', rfl, _, hlen, hxl, hf⟩ := DataW.trod_array hu hy
          have h1 := leavesA_ok (l := l) (cs := cs) k (fun i hi => by
            have := hf i hi
            have hil : i < xs.length := by rw [hxl]; exact hi
            rw [List.getElem?_eq_getElem hil, hc.1] at this
            exact leaves_ok m _ _ _ _ _ hl this)
          simpa [← hc.2, ← hlen] using h1
        · cases h
      · cases h
    · cases h
end
theorem leaves_cons {k : Leaf} {ks : List Leaf} : ∀ {cs : List Value}, LeavesOk (k :: ks) cs → ∃ v vs, cs = v :: vs ∧ LeafOk k v ∧ LeavesOk ks vs
  | v :: vs, h => ⟨v, vs, rfl, h.1, h.2⟩
  | [], h => h.elim
theorem leaves_nil : ∀ {cs : List Value}, LeavesOk [] cs → cs = []
  | [], _ => rfl
  | _ :: _, h => h.elim
end Go.Proofs.YtmmclabkkigiaaaGreat

namespace Go.Proofs.YtmmclabkkigiaaaGreat
namespace WithText
open Go.ChangeShapes Go.WideShapes Go.ChangeAt Go.RowKit Go.Deep
inductive Leaf where
  | int (k : IntKind)
  | bool
  | string
def LeafOk : Leaf → Value → Prop
  | .int k, v => ∃ z, v = .int k z ∧ (Lit.int k z).wf = true
  | .bool, v => ∃ b, v = .bool b
  | .string, v => ∃ b, v = .string b ∧ b.size ≤ maxLen
def LeavesOk : List Leaf → List Value → Prop
  | [], [] => True
  | k :: ks, v :: vs => LeafOk k v ∧ LeavesOk ks vs
  | _, _ => False
theorem LeavesOk.append : ∀ {ks ks' : List Leaf} {vs vs' : List Value}, LeavesOk ks vs → LeavesOk ks' vs' → LeavesOk (ks ++ ks') (vs ++ vs')
  | [], _, [], _, _, h => h
  | _ :: _, _, _ :: _, _, h, h' => ⟨h.1, LeavesOk.append h.2 h'⟩
def leavesF (P : Program) (lv : TypeId → Option (List Leaf)) : Nat → List Field → Option (List Leaf)
  | _, [] => some []
  | off, f :: fs => match lv f.type with
    | some l => if f.offset = off ∧ P.cellsOf f.type = l.length then (leavesF P lv (off + l.length) fs).map (l ++ ·) else none
    | none => none
def leaves (P : Program) : Nat → TypeId → Option (List Leaf)
  | 0, _ => none
  | m + 1, t => match P.underlying t with
    | some (.int k) => some [.int k]
    | some .bool => some [.bool]
    | some .string => some [.string]
    | some (.struct fs) => match leavesF P (leaves P m) 0 fs.toList with
      | some ks => if P.cellsOf t = ks.length then some ks else none
      | none => none
    | some (.array n e) => match leaves P m e with
      | some l => if P.cellsOf e = l.length ∧ P.cellsOf t = n * l.length then some ((List.replicate n l).flatten) else none
      | none => none
    | _ => none
section
variable {H : Type} {enc : TypeId × Value → H} {P : Program} {w : World} {base : Nat} {sp : Nat → Bool} {held : Bool}
theorem leavesF_ok {lv : TypeId → Option (List Leaf)} (hlv : ∀ (t : TypeId) (ks : List Leaf) (n : Nat) (cs : List Value) (y : DataW H × List MemPlace), lv t = some ks → DataW.trod enc P w base sp held n t cs = some y → LeavesOk ks cs) {cs : List Value} :
    ∀ (fs : List Field) (off : Nat) (ks : List Leaf), leavesF P lv off fs = some ks → (∀ (i : Nat) (f : Field), fs[i]? = some f → ∃ n y, DataW.trod enc P w base sp held n f.type ((cs.drop f.offset).take (P.cellsOf f.type)) = some y) →
      LeavesOk ks ((cs.drop off).take ks.length)
  | [], off, ks, h, _ => by
    simp only [leavesF, Option.some.injEq] at h
    subst h
    simp [LeavesOk]
  | f :: fs, off, ks, h, ht => by
    unfold leavesF at h
    split at h
    · rename_i l hl
      split at h
      · rename_i hc
        simp only [Option.map_eq_some_iff] at h
        obtain ⟨ks', hk', rfl⟩ := h
        obtain ⟨n, y, hy⟩ := ht 0 f rfl
        rw [hc.1, hc.2] at hy
        have h1 := hlv _ _ _ _ _ hl hy
        have h2 := leavesF_ok hlv fs (off + l.length) ks' hk' (fun i g hg => ht (i + 1) g (by simpa using hg))
        have e : (cs.drop off).take (l ++ ks').length = (cs.drop off).take l.length ++ (cs.drop (off + l.length)).take ks'.length := by
          rw [List.length_append, List.take_add, List.drop_drop]
        rw [e]
        exact h1.append h2
      · cases h
    · cases h
theorem leavesA_ok {l : List Leaf} {cs : List Value} : ∀ n : Nat, (∀ i, i < n → LeavesOk l ((cs.drop (i * l.length)).take l.length)) → LeavesOk ((List.replicate n l).flatten) (cs.take (n * l.length))
  | 0, _ => by simp [LeavesOk]
  | n + 1, h => by
    have h1 := leavesA_ok n (fun i hi => h i (by omega))
    have h2 := h n (by omega)
    have e1 : (List.replicate (n + 1) l).flatten = (List.replicate n l).flatten ++ l := by
      rw [List.replicate_succ', List.flatten_append]
      simp
    have e2 : cs.take ((n + 1) * l.length) = cs.take (n * l.length) ++ (cs.drop (n * l.length)).take l.length := by
      rw [Nat.add_mul, Nat.one_mul, List.take_add]
    rw [e1, e2]
    exact h1.append h2
theorem leaves_ok : ∀ (m : Nat) (t : TypeId) (ks : List Leaf) (n : Nat) (cs : List Value) (y : DataW H × List MemPlace), leaves P m t = some ks → DataW.trod enc P w base sp held n t cs = some y → LeavesOk ks cs
  | 0, t, ks, n, cs, y, h, _ => by simp [leaves] at h
  | m + 1, t, ks, n, cs, y, h, hy => by
    unfold leaves at h
    split at h
    · rename_i k hu
      cases h
      obtain ⟨z, rfl, _, hz⟩ := DataW.trod_int hu hy
      exact ⟨⟨z, rfl, hz⟩, trivial⟩
    · rename_i hu
      cases h
      cases n with
      | zero => simp [DataW.trod] at hy
      | succ n =>
        unfold DataW.trod at hy
        rw [hu] at hy
        split at hy <;> simp_all [LeavesOk, LeafOk]
    · rename_i hu
      cases h
      obtain ⟨b, rfl, _, hz⟩ := DataW.trod_string hu hy
      exact ⟨⟨b, rfl, hz⟩, trivial⟩
    · rename_i fs hu
      split at h
      · rename_i ks' hks
        split at h
        · rename_i hc
          cases h
          obtain ⟨xs, n', rfl, _, hlen, hxl, hf⟩ := DataW.trod_struct hu hy
          have h1 := leavesF_ok (cs := cs) (leaves_ok m) fs.toList 0 _ hks (fun i f hi => by
            have hi' : fs[i]? = some f := by simpa using hi
            have := hf i f hi'
            have hil : i < xs.length := by rw [hxl]; exact (Array.getElem?_eq_some_iff.1 hi').1
            rw [List.getElem?_eq_getElem hil] at this
            exact ⟨_, _, this⟩)
          simpa [← hc, ← hlen] using h1
        · cases h
      · cases h
    · rename_i k e hu
      split at h
      · rename_i l hl
        split at h
        · rename_i hc
          cases h
          obtain ⟨xs, n', rfl, _, hlen, hxl, hf⟩ := DataW.trod_array hu hy
          have h1 := leavesA_ok (l := l) (cs := cs) k (fun i hi => by
            have := hf i hi
            have hil : i < xs.length := by rw [hxl]; exact hi
            rw [List.getElem?_eq_getElem hil, hc.1] at this
            exact leaves_ok m _ _ _ _ _ hl this)
          simpa [← hc.2, ← hlen] using h1
        · cases h
      · cases h
    · cases h
end
theorem leaves_cons {k : Leaf} {ks : List Leaf} : ∀ {cs : List Value}, LeavesOk (k :: ks) cs → ∃ v vs, cs = v :: vs ∧ LeafOk k v ∧ LeavesOk ks vs
  | v :: vs, h => ⟨v, vs, rfl, h.1, h.2⟩
  | [], h => h.elim
theorem leaves_nil : ∀ {cs : List Value}, LeavesOk [] cs → cs = []
  | [], _ => rfl
  | _ :: _, h => h.elim
end WithText
end Go.Proofs.YtmmclabkkigiaaaGreat

namespace Go.Proofs.YtmmclabkkigiaaaGreat
open Go.ChangeShapes Go.WideShapes Go.ChangeAt Go.RowKit Go.Deep
theorem leaf_Mk (cs0 : List Value) (e0 : WithText.LeavesOk [.int .u8, .string, .int .u8] cs0) : ∃ x, cs0 = kMk.elem x ∧ good_Mk x := by
  obtain ⟨_, cs1, rfl, ⟨z0, rfl, b0⟩, e1⟩ := WithText.leaves_cons e0
  obtain ⟨_, cs2, rfl, ⟨z1, rfl, _⟩, e2⟩ := WithText.leaves_cons e1
  obtain ⟨_, cs3, rfl, ⟨z2, rfl, b2⟩, e3⟩ := WithText.leaves_cons e2
  obtain rfl := WithText.leaves_nil e3
  simp [Lit.wf, IntKind.min, IntKind.max, IntKind.signed, IntKind.bits] at b0 b2
  refine ⟨⟨z0, z1, z2⟩, rfl, ?_⟩
  simp only [good_Mk]
  omega
theorem read_Mk {H : Type} {enc : TypeId × Value → H} {w : World} {base : Nat} {sp : Nat → Bool} (n : Nat) (cs : List Value) (y : DataW H × List MemPlace) (_ : cs.length = kMk.size) (h : DataW.trod enc Tryz.prog w base sp true n kMk.e cs = some y) :
    ∃ x, cs = kMk.elem x ∧ good_Mk x := leaf_Mk cs (WithText.leaves_ok (P := Tryz.prog) 6 kMk.e [.int .u8, .string, .int .u8] _ _ _ (by kernel_rfl) h)
end Go.Proofs.YtmmclabkkigiaaaGreat
