/- Texts, one behind the other: ALpPl, PLpPl, KG, Lo, LoS, Ro18. -/
import Derived.OpenShut
import Derived.Test.YtmmclabkkigiaaaGreatQPP6
set_option linter.unusedVariables false
set_option linter.unusedSimpArgs false
set_option maxRecDepth 20000
set_option maxHeartbeats 4000000
namespace Go.Proofs.YtmmclabkkigiaaaGreat
open Go Go.RowKit
def pathplays_J4  : Option (Bool) :=
 (works16_M).bind fun r92 =>
some r92
def pathplays_J6 (k100 : Int → Option (Bool)) (p99 : Int) (p124 : Bool) : Option (Bool) :=
 if p124 = true then (need (-9223372036854775808 ≤ (p99 + 1) ∧ (p99 + 1) ≤ 9223372036854775807) <|
k100 (p99 + 1)) else (some false)
def pathplays_B2 (cut_ : Int) (ss : List TSt16) (r36 : List Int) (p47 : Int) (p48 : Int) (p49 : Int) (q52 : List Int) (k100 : Int → Option (Bool)) (p99 : Int) : Option (Bool) :=
 if p99 < (ss.length : Int) then (need (0 ≤ p99 ∧ p99 < (ss.length : Int)) <|
if ((ss.getD p99.toNat dSt16).c0).tmod 3 = 0 then ((pWalk_M (q52.take (((r36.length : Int) - (mn cut_ (r36.length : Int))).toNat)) ([]) p47 p48 p49 ((ss.getD p99.toNat dSt16).c1)).bind fun r143 =>
(rWalk16_M (q52.take (((r36.length : Int) - (mn cut_ (r36.length : Int))).toNat)) ([]) p47 p48 p49 ((ss.getD p99.toNat dSt16).c1)).bind fun r150 =>
if r143.1 = r150.1 then (pathplays_J6 k100 p99 (decide (r143.2 = r150.2))) else (pathplays_J6 k100 p99 false)) else (if ((ss.getD p99.toNat dSt16).c0).tmod 3 = 1 then ((pParent_M (q52.take (((r36.length : Int) - (mn cut_ (r36.length : Int))).toNat)) ([]) p47 p48 p49 ((ss.getD p99.toNat dSt16).c1)).bind fun r174 =>
(rParent16_M (q52.take (((r36.length : Int) - (mn cut_ (r36.length : Int))).toNat)) ([]) p47 p48 p49 ((ss.getD p99.toNat dSt16).c1)).bind fun r181 =>
if r174.1 = r181.1 then (if (r174.2.1.toList == r181.2.1.toList) = true then (pathplays_J6 k100 p99 (decide (r174.2.2 = r181.2.2))) else (pathplays_J6 k100 p99 false)) else (pathplays_J6 k100 p99 false)) else ((pWithin_M (q52.take (((r36.length : Int) - (mn cut_ (r36.length : Int))).toNat)) ([]) p47 p48 p49 ((ss.getD p99.toNat dSt16).c2) ((ss.getD p99.toNat dSt16).c3)).bind fun r211 =>
(rWithin16_M (q52.take (((r36.length : Int) - (mn cut_ (r36.length : Int))).toNat)) ([]) p47 p48 p49 ((ss.getD p99.toNat dSt16).c2) ((ss.getD p99.toNat dSt16).c3)).bind fun r218 =>
if ((r211.1 = true) ↔ (r218.1 = true)) then (pathplays_J6 k100 p99 (decide (r211.2 = r218.2))) else (pathplays_J6 k100 p99 false)))) else (pathplays_J4)
def pathplays_J3 (cut_ : Int) (ss : List TSt16) (r36 : List Int) (p47 : Int) (p48 : Int) (p49 : Int) (q52 : List Int) : Option (Bool) :=
 need (-9223372036854775808 ≤ cut_ ∧ cut_ ≤ 9223372036854775807) <|
need (-9223372036854775808 ≤ ((r36.length : Int) - (mn cut_ (r36.length : Int))) ∧ ((r36.length : Int) - (mn cut_ (r36.length : Int))) ≤ 9223372036854775807) <|
need (0 ≤ ((r36.length : Int) - (mn cut_ (r36.length : Int))) ∧ ((r36.length : Int) - (mn cut_ (r36.length : Int))) ≤ (r36.length : Int)) <|
need (r36.length = q52.length) <|
need ((q52.take (((r36.length : Int) - (mn cut_ (r36.length : Int))).toNat)).length ≤ 17592186044415) <|
need ((q52.take (((r36.length : Int) - (mn cut_ (r36.length : Int))).toNat)).length ≤ 17592186044415) <|
iter (fun k_ s_ => pathplays_B2 cut_ ss r36 p47 p48 p49 q52 k_ s_) FUEL 0
def pathplays_B1 (ts : List TTn) (cut_ : Int) (ss : List TSt16) (r36 : List Int) (p47 : Int) (p48 : Int) (p49 : Int) (k248 : ((List Int) × Int) → Option (Bool)) (q246 : List Int) (p247 : Int) : Option (Bool) :=
 if p247 < (ts.length : Int) then (need (0 ≤ p247 ∧ p247 < (ts.length : Int)) <|
need (-9223372036854775808 ≤ ((ts.getD p247.toNat dTn).c0) ∧ ((ts.getD p247.toNat dTn).c0) ≤ 9223372036854775807) <|
need (¬ ((r36.length : Int) = 0)) <|
need (0 ≤ p247 ∧ p247 < (ts.length : Int)) <|
need (0 ≤ (((ts.getD p247.toNat dTn).c0).tmod (r36.length : Int)) ∧ (((ts.getD p247.toNat dTn).c0).tmod (r36.length : Int)) < (r36.length : Int)) <|
need ((((ts.getD p247.toNat dTn).c0).tmod (r36.length : Int)).toNat < q246.length) <|
need (-9223372036854775808 ≤ (p247 + 1) ∧ (p247 + 1) ≤ 9223372036854775807) <|
k248 ((q246.set ((((ts.getD p247.toNat dTn).c0).tmod (r36.length : Int)).toNat) ((ts.getD p247.toNat dTn).c1)), (p247 + 1))) else (pathplays_J3 cut_ ss r36 p47 p48 p49 q246)
def pathplays_J2 (ts : List TTn) (cut_ : Int) (ss : List TSt16) (r36 : List Int) (p47 : Int) (p48 : Int) (p49 : Int) : Option (Bool) :=
 iter (fun k_ s_ => pathplays_B1 ts cut_ ss r36 p47 p48 p49 k_ s_.1 s_.2) FUEL (r36, 0)
def pathplays_J1 (ms : List TMk) (o_ : Bool) (gw : Int) (gi : Int) (gb : Int) (ts : List TTn) (cut_ : Int) (ss : List TSt16) : Option (Bool) :=
 (tree_M ms).bind fun r36 =>
if o_ = true then (pathplays_J2 ts cut_ ss r36 gw gi gb) else (pathplays_J2 ts cut_ ss r36 1 (2 + (19 : Int) % 20) (2 + (59 : Int) % 60))
def pathplays_B0 (ms : List TMk) (o_ : Bool) (gw : Int) (gi : Int) (gb : Int) (ts : List TTn) (cut_ : Int) (ss : List TSt16) (k294 : Int → Option (Bool)) (p293 : Int) : Option (Bool) :=
 if p293 < (ss.length : Int) then (need (0 ≤ p293 ∧ p293 < (ss.length : Int)) <|
if (((ss.getD p293.toNat dSt16).c1).size : Int) > 1000 then ((works16_M).bind fun r307 =>
some r307) else (need (-9223372036854775808 ≤ (p293 + 1) ∧ (p293 + 1) ≤ 9223372036854775807) <|
k294 (p293 + 1))) else (pathplays_J1 ms o_ gw gi gb ts cut_ ss)
def pathplays_M (ms : List TMk) (o_ : Bool) (gw : Int) (gi : Int) (gb : Int) (ts : List TTn) (cut_ : Int) (ss : List TSt16) : Option (Bool) :=
 if (ms.length : Int) > 40 then ((works16_M).bind fun r9 =>
some r9) else (if (ts.length : Int) > 40 then ((works16_M).bind fun r17 =>
some r17) else (if (ss.length : Int) > 40 then ((works16_M).bind fun r25 =>
some r25) else (iter (fun k_ s_ => pathplays_B0 ms o_ gw gi gb ts cut_ ss k_ s_) FUEL 0)))
theorem pathplays_walk {ms : List TMk} {o_ : Bool} {gw : Int} {gi : Int} {gb : Int} {ts : List TTn} {cut_ : Int} {ss : List TSt16} {ma : Option Addr} {mc : Nat} {ta : Option Addr} {tc : Nat} {sa : Option Addr} {sc : Nat}  (B : Nat) (w : World) (hB : w.heap.size = B) (hmk : CellsAt ma (kMk.cells ms) w) (ht : CellsAt ta (kTn.cells ts) w) (hst : CellsAt sa (kSt16.cells ss) w) (hm : pathplays_M ms o_ gw gi gb ts cut_ ss = some true) : Spec Tryz.prog 3 #[(.slice ma ms.length mc), (.bool o_), (.agg #[(zi gw), (zi gi), (zi gb)]), (.slice ta ts.length tc), (.int .u16 cut_), (.slice sa ss.length sc)] B w [] (fun v H' => v = .bool true ∧ H' = []) := by
 refine spec_Q Tryz.func3 rfl fun hs => ?_
 unfold pathplays_M at hm
 refine W.sr fun K1 hK1 => ?_
 refine zN [(zi gw), (zi gi), (zi gb)] 24 hs fun b4 w2 hs3 => ?_
 refine zE 1 (hK1 _ _ ?_)
 refine W.seq fun K5 hK5 => ?_
 refine W.sr fun K6 hK6 => ?_
 refine zR 4 ?_
 rcases Bool.eq_false_or_eq_true (decide ((ms.length : Int) > 40)) with h7 | h7
 ·
  obtain ⟨h7p, hm⟩ := iY hm h7
  refine zS 40 h7 ?_
  refine zS 39 h7 ?_
  refine zE 9 (hK6 _ _ ?_)
  refine W.cond_true true (by kernel_rfl) rfl ?_
  refine W.sr fun K8 hK8 => ?_
  obtain ⟨r9, h10, hm⟩ := bind_some hm
  refine zC00 hs3 (works16_walk (hm := h10) B _) fun w11 hs13 => ?_
  refine zE 1 (hK8 _ _ ?_)
  refine W.ret (ret_seq ?_)
  have hs14 := St.tk0 hs13
  refine ret_of (.bool r9) (by kernel_rfl) ⟨_, ⟨congrArg Value.bool (some_inj hm), rfl⟩, hs14⟩
 obtain ⟨h7p, hm⟩ := iN hm h7
 refine zS 40 h7 ?_
 refine zS 39 h7 ?_
 refine zR 5 ?_
 rcases Bool.eq_false_or_eq_true (decide ((ts.length : Int) > 40)) with h15 | h15
 ·
  obtain ⟨h15p, hm⟩ := iY hm h15
  refine zS 45 h15 ?_
  refine zS 43 h15 ?_
  refine zS 44 h15 ?_
  refine zE 4 (hK6 _ _ ?_)
  refine W.cond_true true (by kernel_rfl) rfl ?_
  refine W.sr fun K16 hK16 => ?_
  obtain ⟨r17, h18, hm⟩ := bind_some hm
  refine zC00 hs3 (works16_walk (hm := h18) B _) fun w19 hs21 => ?_
  refine zE 1 (hK16 _ _ ?_)
  refine W.ret (ret_seq ?_)
  have hs22 := St.tk0 hs21
  refine ret_of (.bool r17) (by kernel_rfl) ⟨_, ⟨congrArg Value.bool (some_inj hm), rfl⟩, hs22⟩
 obtain ⟨h15p, hm⟩ := iN hm h15
 refine zS 45 h15 ?_
 refine zS 43 h15 ?_
 refine zS 44 h15 ?_
 refine zE 4 (hK6 _ _ ?_)
 refine W.cond (decide ((ss.length : Int) > 40)) (by kernel_rfl) (fun h23 => ?_) (fun h23 => ?_)
 ·
  obtain ⟨h23p, hm⟩ := iY hm h23
  refine W.sr fun K24 hK24 => ?_
  obtain ⟨r25, h26, hm⟩ := bind_some hm
  refine zC00 hs3 (works16_walk (hm := h26) B _) fun w27 hs29 => ?_
  refine zE 1 (hK24 _ _ ?_)
  refine W.ret (ret_seq ?_)
  have hs30 := St.tk0 hs29
  refine ret_of (.bool r25) (by kernel_rfl) ⟨_, ⟨congrArg Value.bool (some_inj hm), rfl⟩, hs30⟩
 obtain ⟨h23p, hm⟩ := iN hm h23
 refine W.skip ?_
 refine hK5 _ _ ?_
 refine W.seq_join (fun s_ w_ => (∃ us, s_ = slots 221 [(0, (.slice ma ms.length mc)), (1, (.bool o_)), (3, (.slice ta ts.length tc)), (4, (.int .u16 cut_)), (5, (.slice sa ss.length sc)), (8, (zp b4))] us) ∧ St B w [] w_ [zb b4 24 [(zi gw), (zi gi), (zi gb)]] ∧ pathplays_J1 ms o_ gw gi gb ts cut_ ss = some true) ?_ ?_
 ·
  rintro _ w31 ⟨⟨us, rfl⟩, hs32, hm⟩
  unfold pathplays_J1 at hm
  refine W.sr fun K33 hK33 => ?_
  refine zR 1 ?_
  obtain ⟨r36, h37, hm⟩ := bind_some hm
  refine ops_call0 hs32 (by kernel_rfl) (tree_walk (mc := mc) (hmk := (hs32.oldCells hmk)) (hm := h37) B _) ?_
  rintro _ _ w38 ⟨a34, c35, rfl, rfl⟩ hs39
  have hs40 := St.ap1 hs39
  refine zR 3 ?_
  refine zN [(zi 0), (zi 0), (zi 0)] 24 hs40 fun b43 w41 hs42 => ?_
  refine zT 0 [(zi 1), (zi (2 + (19 : Int) % 20)), (zi (2 + (59 : Int) % 60))] [(zi 1), (zi (2 + (19 : Int) % 20)), (zi (2 + (59 : Int) % 60))] hs42 fun w44 hs46 => ?_
  refine zE 1 (hK33 _ _ ?_)
  refine W.seq_join (fun s_ w_ => ∃ (p47 : Int) (p48 : Int) (p49 : Int), (∃ us, s_ = slots 221 [(3, (.slice ta ts.length tc)), (4, (.int .u16 cut_)), (5, (.slice sa ss.length sc)), (8, (zp b4)), (15, (.slice a34 r36.length c35))] us) ∧ St B w [] w_ [zb b4 24 [(zi p47), (zi p48), (zi p49)], kU64.row a34 c35 r36, zb b43 24 [(zi 1), (zi (2 + (19 : Int) % 20)), (zi (2 + (59 : Int) % 60))]] ∧ pathplays_J2 ts cut_ ss r36 p47 p48 p49 = some true) ?_ ?_
  ·
   rintro _ w50 ⟨p47, p48, p49, ⟨us, rfl⟩, hs51, hm⟩
   unfold pathplays_J2 at hm
   refine W.seq_join (fun s_ w_ => ∃ (q52 : List Int), (∃ us, s_ = slots 221 [(4, (.int .u16 cut_)), (5, (.slice sa ss.length sc)), (8, (zp b4)), (15, (.slice a34 r36.length c35))] us) ∧ St B w [] w_ [zb b4 24 [(zi p47), (zi p48), (zi p49)], kU64.row a34 c35 q52, zb b43 24 [(zi 1), (zi (2 + (19 : Int) % 20)), (zi (2 + (59 : Int) % 60))]] ∧ pathplays_J3 cut_ ss r36 p47 p48 p49 q52 = some true) ?_ ?_
   ·
    rintro _ w53 ⟨q52, ⟨us, rfl⟩, hs54, hm⟩
    unfold pathplays_J3 at hm
    refine W.sr fun K55 hK55 => ?_
    refine zR 4 ?_
    obtain ⟨h56, hm⟩ := need_some hm
    refine zI _ (wrap_i64 h56.1 h56.2) ?_
    refine zR 3 ?_
    obtain ⟨h57, hm⟩ := need_some hm
    refine zI _ (wrap_i64 h57.1 h57.2) ?_
    obtain ⟨h58, hm⟩ := need_some hm
    have hc59 := St.kcap kU64 hs54 1 rfl
    obtain ⟨h60, hm⟩ := need_some hm
    rw [← h60] at hc59
    refine ops_R (runs_prefixL (a := a34) (n := r36.length) (c := c35) (z := ((r36.length : Int) - (mn cut_ (r36.length : Int)))) (size := 1) (((r36.length : Int) - (mn cut_ (r36.length : Int))).toNat) (q52.take (((r36.length : Int) - (mn cut_ (r36.length : Int))).toNat)).length (le_take_len (by omega)) (nat_of h58.1) (le_toNat h58) hc59 (by kernel_rfl)) ?_
    refine zE 1 (hK55 _ _ ?_)
    refine W.sr fun K61 hK61 => ?_
    refine zG ⟨b4, 0, none⟩ [(zi p47), (zi p48), (zi p49)] (cells_sub (hs54.heapAt 0 rfl) rfl) ?_
    refine zN [(zi 0), (zi 0), (zi 0)] 37 hs54 fun b64 w62 hs63 => ?_
    refine zT 0 [(zi p47), (zi p48), (zi p49)] [(zi p47), (zi p48), (zi p49)] hs63 fun w65 hs67 => ?_
    refine zD (hK61 _ _ ?_)
    refine W.sr fun K68 hK68 => ?_
    refine zR 1 ?_
    have hs69 := St.f2 hs67
    have hs70 := St.kprefix kU64 (((r36.length : Int) - (mn cut_ (r36.length : Int))).toNat) hs69
    obtain ⟨h72, hm⟩ := need_some hm
    refine ops_call0 hs70 (by kernel_rfl) (new_spec (hc := (St.kcells kU64 hs70 0 rfl)) (hn := (St.capnil kU64 hs70 0 rfl)) (hsz := h72) B _) ?_
    rintro _ _ w73 ⟨b71, rfl, rfl⟩ hs74
    have hs75 := St.ap1 hs74
    refine zE 1 (hK68 _ _ ?_)
    refine W.sr fun K76 hK76 => ?_
    refine zR 1 ?_
    obtain ⟨h78, hm⟩ := need_some hm
    refine ops_call0 hs75 (by kernel_rfl) (rnew_spec (hc := (St.kcells kU64 hs75 1 rfl)) (hn := (St.capnil kU64 hs75 1 rfl)) (hsz := h78) B _) ?_
    rintro _ _ w79 ⟨b77, rfl, rfl⟩ hs80
    have hs81 := St.ap1 hs80
    refine zE 1 (hK76 _ _ ?_)
    refine W.seq fun K82 hK82 => ?_
    refine W.sr fun K83 hK83 => ?_
    refine zE 2 (hK83 _ _ ?_)
    refine W.cond_false false (by kernel_rfl) rfl ?_
    refine W.skip ?_
    refine hK82 _ _ ?_
    refine W.seq_join (fun s_ w_ => (∃ us, s_ = slots 221 [(18, (zp b71))] us) ∧ St B w [] w_ [viewA (ptr b71) (q52.take (((r36.length : Int) - (mn cut_ (r36.length : Int))).toNat)) ([]), refA (ptr b77) (q52.take (((r36.length : Int) - (mn cut_ (r36.length : Int))).toNat)) ([]), kU64.row a34 c35 (q52.take (((r36.length : Int) - (mn cut_ (r36.length : Int))).toNat)), zb b64 37 [(zi p47), (zi p48), (zi p49)], zb b4 24 [(zi p47), (zi p48), (zi p49)], zb b43 24 [(zi 1), (zi (2 + (19 : Int) % 20)), (zi (2 + (59 : Int) % 60))]] ∧ pathplays_J4 = some true) ?_ ?_
    ·
     rintro _ w84 ⟨⟨us, rfl⟩, hs85, hm⟩
     unfold pathplays_J4 at hm
     refine W.sr fun K86 hK86 => ?_
     refine zR 1 ?_
     refine ops_call0 hs85 (by kernel_rfl) (writes_spec (hv := (hs85.entAt 0 rfl viewA_at)) B _) ?_
     rintro _ _ w89 ⟨a87, c88, rfl, rfl⟩ hs90
     have hs91 := St.ap1 hs90
     refine zR 3 ?_
     obtain ⟨r92, h93, hm⟩ := bind_some hm
     refine zC00 hs91 (works16_walk (hm := h93) B _) fun w94 hs96 => ?_
     refine zE 2 (hK86 _ _ ?_)
     refine W.ret ?_
     have hs97 := St.tk0 hs96
     refine ret_of (.bool r92) (by kernel_rfl) ⟨_, ⟨congrArg Value.bool (some_inj hm), rfl⟩, hs97⟩
    refine W.sr fun K98 hK98 => ?_
    refine zE 1 (hK98 _ _ ?_)
    refine W.block ?_
    have hs104 := St.f5 hs81
    have hs105 := St.f3 hs104
    have hs106 := St.f2 hs105
    have hs107 := St.f3 hs106
    have hs108 := St.f4 hs107
    have hs109 := St.f5 hs108
    refine W.loop_iter (G := Int) (σ := Int) (fun | p99 => p99) (fun | p99, s_, w_ => (∃ us, s_ = slots 221 [(5, (.slice sa ss.length sc)), (8, (zp b4)), (17, (zp b64)), (18, (zp b71)), (19, (zp b77)), (20, (zi p99))] us) ∧ St B w [] w_ [zb b4 24 [(zi p47), (zi p48), (zi p49)], zb b64 37 [(zi p47), (zi p48), (zi p49)], viewA (ptr b71) (q52.take (((r36.length : Int) - (mn cut_ (r36.length : Int))).toNat)) ([]), refA (ptr b77) (q52.take (((r36.length : Int) - (mn cut_ (r36.length : Int))).toNat)) ([]), kU64.row a34 c35 (q52.take (((r36.length : Int) - (mn cut_ (r36.length : Int))).toNat)), zb b43 24 [(zi 1), (zi (2 + (19 : Int) % 20)), (zi (2 + (59 : Int) % 60))]]) 0 ⟨slots_intro _ (by kernel_rfl), hs109⟩ hm ?_
    rintro k100 ih101 p99 _ w102 ⟨⟨us, rfl⟩, hs103⟩ hm
    replace hm : pathplays_B2 cut_ ss r36 p47 p48 p49 q52 k100 p99 = some true := hm
    unfold pathplays_B2 at hm
    refine W.seq fun K110 hK110 => ?_
    refine W.sr fun K111 hK111 => ?_
    refine zE 4 (hK111 _ _ ?_)
    refine W.cond (decide (p99 < (ss.length : Int))) (by kernel_rfl) (fun h112 => ?_) (fun h112 => ?_)
    ·
     obtain ⟨h112p, hm⟩ := iY hm h112
     refine W.skip ?_
     refine hK110 _ _ ?_
     refine W.seq fun K113 hK113 => ?_
     refine W.block ?_
     refine W.sr fun K114 hK114 => ?_
     refine zR 2 ?_
     obtain ⟨h116, hm⟩ := need_some hm
     have hk115 := lt_toNat h116
     refine ops_R (runs_index (a := sa) (n := ss.length) (z := p99) (size := 4) p99.toNat (nat_of h116.1) hk115 (kSt16.addr (hs103.oldCells hst) hk115) (by kernel_rfl)) ?_
     refine ops_R (runs_loadAgg (cs := [(.int .u8 ((ss.getD p99.toNat dSt16).c0)), (.string ((ss.getD p99.toNat dSt16).c1)), (zi ((ss.getD p99.toNat dSt16).c2)), (zi ((ss.getD p99.toNat dSt16).c3))]) (by kernel_rfl) (kSt16.all (hs103.oldCells hst) hk115 dSt16 0 rfl)) ?_
     refine zN [(.int .u8 0), (.string ByteArray.empty), (zi 0), (zi 0)] 30 hs103 fun b119 w117 hs118 => ?_
     refine zT 0 [(.int .u8 ((ss.getD p99.toNat dSt16).c0)), (.string ((ss.getD p99.toNat dSt16).c1)), (zi ((ss.getD p99.toNat dSt16).c2)), (zi ((ss.getD p99.toNat dSt16).c3))] [(.int .u8 ((ss.getD p99.toNat dSt16).c0)), (.string ((ss.getD p99.toNat dSt16).c1)), (zi ((ss.getD p99.toNat dSt16).c2)), (zi ((ss.getD p99.toNat dSt16).c3))] hs118 fun w120 hs122 => ?_
     refine zD (hK114 _ _ ?_)
     refine W.sr fun K123 hK123 => ?_
     refine zE 1 (hK123 _ _ ?_)
     refine W.seq_join (fun s_ w_ => ∃ (p124 : Bool), (∃ us, s_ = slots 221 [(5, (.slice sa ss.length sc)), (8, (zp b4)), (17, (zp b64)), (18, (zp b71)), (19, (zp b77)), (20, (zi p99)), (22, (.bool p124))] us) ∧ St B w [] w_ [zb b4 24 [(zi p47), (zi p48), (zi p49)], zb b64 37 [(zi p47), (zi p48), (zi p49)], viewA (ptr b71) (q52.take (((r36.length : Int) - (mn cut_ (r36.length : Int))).toNat)) ([]), refA (ptr b77) (q52.take (((r36.length : Int) - (mn cut_ (r36.length : Int))).toNat)) ([]), zb b119 30 [(.int .u8 ((ss.getD p99.toNat dSt16).c0)), (.string ((ss.getD p99.toNat dSt16).c1)), (zi ((ss.getD p99.toNat dSt16).c2)), (zi ((ss.getD p99.toNat dSt16).c3))], kU64.row a34 c35 (q52.take (((r36.length : Int) - (mn cut_ (r36.length : Int))).toNat)), zb b43 24 [(zi 1), (zi (2 + (19 : Int) % 20)), (zi (2 + (59 : Int) % 60))]] ∧ pathplays_J6 k100 p99 p124 = some true) ?_ ?_
     ·
      rintro _ w125 ⟨p124, ⟨us, rfl⟩, hs126, hm⟩
      unfold pathplays_J6 at hm
      refine W.sr fun K127 hK127 => ?_
      refine zE 2 (hK127 _ _ ?_)
      refine W.cond (!p124) (by kernel_rfl) (fun h128 => ?_) (fun h128 => ?_)
      rotate_left
      ·
       have h128p : p124 = true := (bnot_false h128)
       replace hm := ite_yes hm h128p
       refine W.skip ?_
       refine normal_block ?_
       refine hK113 _ _ ?_
       refine W.region ?_
       refine zR 1 ?_
       obtain ⟨h129, hm⟩ := need_some hm
       refine zI _ (wrap_i64 h129.1 h129.2) ?_
       refine zE 1 ?_
       have hs130 := St.f6 hs126
       have hs131 := St.f6 hs130
       have hs132 := St.f5 hs131
       have hs133 := St.f5 hs132
       have hs134 := St.f5 hs133
       have hs135 := St.f5 hs134
       have hs136 := St.tk6 hs135
       refine loopAt_next ?_
       exact ih101 (p99 + 1) _ _ ⟨slots_intro _ (by kernel_rfl), hs136⟩ hm
      have h128p : ¬ (p124 = true) := ne_true_of_eq_false (bnot_true h128)
      replace hm := ite_no hm h128p
      refine W.sr fun K137 hK137 => ?_
      refine zE 1 (hK137 _ _ ?_)
      refine W.ret (ret_block (ret_seq (ret_seq (ret_block (ret_seq ?_)))))
      have hs138 := St.tk0 hs126
      refine ret_of (.bool false) (by kernel_rfl) ⟨_, ⟨congrArg Value.bool (some_inj hm), rfl⟩, hs138⟩
     refine W.sr fun K139 hK139 => ?_
     refine zR 1 ?_
     refine zL ⟨b119, 0, none⟩ (.int .u8 ((ss.getD p99.toNat dSt16).c0)) (hs122.cellAt 0 rfl rfl) ?_
     refine zE 1 (hK139 _ _ ?_)
     refine W.block ?_
     refine W.sr fun K140 hK140 => ?_
     refine zE 2 (hK140 _ _ ?_)
     refine W.cond (decide (((ss.getD p99.toNat dSt16).c0).tmod 3 = 0)) (by kernel_rfl) (fun h141 => ?_) (fun h141 => ?_)
     ·
      obtain ⟨h141p, hm⟩ := iY hm h141
      refine W.sr fun K142 hK142 => ?_
      refine zR 1 ?_
      refine zG ⟨b4, 0, none⟩ [(zi p47), (zi p48), (zi p49)] (cells_sub (hs122.heapAt 1 rfl) rfl) ?_
      refine zR 1 ?_
      refine zL ⟨b119, 1, none⟩ (.string ((ss.getD p99.toNat dSt16).c1)) (hs122.cellAt 0 rfl rfl) ?_
      obtain ⟨r143, h144, hm⟩ := bind_some hm
      have hs145 := St.f3 hs122
      refine zC11 hs145 (pWalk_walk (vb := b71) (gw := p47) (gi := p48) (gb := p49) (tx_ := (ss.getD p99.toNat dSt16).c1) (img := (q52.take (((r36.length : Int) - (mn cut_ (r36.length : Int))).toNat))) (l := []) (hm := h144) B _) fun w146 hs148 => ?_
      refine zE 5 (hK142 _ _ ?_)
      refine W.sr fun K149 hK149 => ?_
      refine zR 1 ?_
      refine zG ⟨b64, 0, none⟩ [(zi p47), (zi p48), (zi p49)] (cells_sub (hs148.heapAt 3 rfl) rfl) ?_
      refine zR 1 ?_
      refine zL ⟨b119, 1, none⟩ (.string ((ss.getD p99.toNat dSt16).c1)) (hs148.cellAt 1 rfl rfl) ?_
      obtain ⟨r150, h151, hm⟩ := bind_some hm
      have hs152 := St.f4 hs148
      refine zC11 hs152 (rWalk16_walk (vb := b77) (gw := p47) (gi := p48) (gb := p49) (tx_ := (ss.getD p99.toNat dSt16).c1) (img := (q52.take (((r36.length : Int) - (mn cut_ (r36.length : Int))).toNat))) (l := []) (hm := h151) B _) fun w153 hs155 => ?_
      refine zE 5 (hK149 _ _ ?_)
      refine W.region ?_
      refine zR 4 ?_
      rcases Bool.eq_false_or_eq_true (decide (r143.1 = r150.1)) with h156 | h156
      ·
       obtain ⟨h156p, hm⟩ := iY hm h156
       refine zS 174 h156 ?_
       refine zS 173 h156 ?_
       refine zE 5 ?_
       refine normal_block ?_
       have hs157 := St.f6 hs155
       have hs158 := St.f6 hs157
       have hs159 := St.f4 hs158
       have hs160 := St.f3 hs159
       have hs161 := St.f4 hs160
       have hs162 := St.f6 hs161
       have hs163 := St.f6 hs162
       exact ⟨(decide (r143.2 = r150.2)), slots_intro _ (by kernel_rfl), hs163, hm⟩
      obtain ⟨h156p, hm⟩ := iN hm h156
      refine zS 174 h156 ?_
      refine zS 173 h156 ?_
      refine zE 5 ?_
      refine normal_block ?_
      have hs164 := St.f6 hs155
      have hs165 := St.f6 hs164
      have hs166 := St.f4 hs165
      have hs167 := St.f3 hs166
      have hs168 := St.f4 hs167
      have hs169 := St.f6 hs168
      have hs170 := St.f6 hs169
      exact ⟨false, slots_intro _ (by kernel_rfl), hs170, hm⟩
     obtain ⟨h141p, hm⟩ := iN hm h141
     refine W.sr fun K171 hK171 => ?_
     refine zE 2 (hK171 _ _ ?_)
     refine W.cond (decide (((ss.getD p99.toNat dSt16).c0).tmod 3 = 1)) (by kernel_rfl) (fun h172 => ?_) (fun h172 => ?_)
     ·
      obtain ⟨h172p, hm⟩ := iY hm h172
      refine W.sr fun K173 hK173 => ?_
      refine zR 1 ?_
      refine zG ⟨b4, 0, none⟩ [(zi p47), (zi p48), (zi p49)] (cells_sub (hs122.heapAt 1 rfl) rfl) ?_
      refine zR 1 ?_
      refine zL ⟨b119, 1, none⟩ (.string ((ss.getD p99.toNat dSt16).c1)) (hs122.cellAt 0 rfl rfl) ?_
      obtain ⟨r174, h175, hm⟩ := bind_some hm
      have hs176 := St.f3 hs122
      refine zC11 hs176 (pParent_walk (vb := b71) (gw := p47) (gi := p48) (gb := p49) (tx_ := (ss.getD p99.toNat dSt16).c1) (img := (q52.take (((r36.length : Int) - (mn cut_ (r36.length : Int))).toNat))) (l := []) (hm := h175) B _) fun w177 hs179 => ?_
      refine zE 7 (hK173 _ _ ?_)
      refine W.sr fun K180 hK180 => ?_
      refine zR 1 ?_
      refine zG ⟨b64, 0, none⟩ [(zi p47), (zi p48), (zi p49)] (cells_sub (hs179.heapAt 3 rfl) rfl) ?_
      refine zR 1 ?_
      refine zL ⟨b119, 1, none⟩ (.string ((ss.getD p99.toNat dSt16).c1)) (hs179.cellAt 1 rfl rfl) ?_
      obtain ⟨r181, h182, hm⟩ := bind_some hm
      have hs183 := St.f4 hs179
      refine zC11 hs183 (rParent16_walk (vb := b77) (gw := p47) (gi := p48) (gb := p49) (tx_ := (ss.getD p99.toNat dSt16).c1) (img := (q52.take (((r36.length : Int) - (mn cut_ (r36.length : Int))).toNat))) (l := []) (hm := h182) B _) fun w184 hs186 => ?_
      refine zE 7 (hK180 _ _ ?_)
      refine W.region ?_
      refine zR 4 ?_
      rcases Bool.eq_false_or_eq_true (decide (r174.1 = r181.1)) with h187 | h187
      ·
       obtain ⟨h187p, hm⟩ := iY hm h187
       refine zS 202 h187 ?_
       refine zS 201 h187 ?_
       refine zR 5 ?_
       rcases Bool.eq_false_or_eq_true (r174.2.1.toList == r181.2.1.toList) with h188 | h188
       ·
        have h188p : (r174.2.1.toList == r181.2.1.toList) = true := h188
        replace hm := ite_yes hm h188p
        refine zS 207 h188 ?_
        refine zS 205 h188 ?_
        refine zS 206 h188 ?_
        refine zE 5 ?_
        refine normal_block ?_
        have hs189 := St.f6 hs186
        have hs190 := St.f6 hs189
        have hs191 := St.f4 hs190
        have hs192 := St.f3 hs191
        have hs193 := St.f4 hs192
        have hs194 := St.f6 hs193
        have hs195 := St.f6 hs194
        exact ⟨(decide (r174.2.2 = r181.2.2)), slots_intro _ (by kernel_rfl), hs195, hm⟩
       have h188p : ¬ ((r174.2.1.toList == r181.2.1.toList) = true) := ne_true_of_eq_false h188
       replace hm := ite_no hm h188p
       refine zS 207 h188 ?_
       refine zS 205 h188 ?_
       refine zS 206 h188 ?_
       refine zE 5 ?_
       refine normal_block ?_
       have hs196 := St.f6 hs186
       have hs197 := St.f6 hs196
       have hs198 := St.f4 hs197
       have hs199 := St.f3 hs198
       have hs200 := St.f4 hs199
       have hs201 := St.f6 hs200
       have hs202 := St.f6 hs201
       exact ⟨false, slots_intro _ (by kernel_rfl), hs202, hm⟩
      obtain ⟨h187p, hm⟩ := iN hm h187
      refine zS 202 h187 ?_
      refine zS 201 h187 ?_
      refine zE 10 ?_
      refine normal_block ?_
      have hs203 := St.f6 hs186
      have hs204 := St.f6 hs203
      have hs205 := St.f4 hs204
      have hs206 := St.f3 hs205
      have hs207 := St.f4 hs206
      have hs208 := St.f6 hs207
      have hs209 := St.f6 hs208
      exact ⟨false, slots_intro _ (by kernel_rfl), hs209, hm⟩
     obtain ⟨h172p, hm⟩ := iN hm h172
     refine W.sr fun K210 hK210 => ?_
     refine zR 1 ?_
     refine zG ⟨b4, 0, none⟩ [(zi p47), (zi p48), (zi p49)] (cells_sub (hs122.heapAt 1 rfl) rfl) ?_
     refine zR 1 ?_
     refine zL ⟨b119, 2, none⟩ (zi ((ss.getD p99.toNat dSt16).c2)) (hs122.cellAt 0 rfl rfl) ?_
     refine zR 1 ?_
     refine zL ⟨b119, 3, none⟩ (zi ((ss.getD p99.toNat dSt16).c3)) (hs122.cellAt 0 rfl rfl) ?_
     obtain ⟨r211, h212, hm⟩ := bind_some hm
     have hs213 := St.f3 hs122
     refine zC11 hs213 (pWithin_walk (vb := b71) (gw := p47) (gi := p48) (gb := p49) (a_ := (ss.getD p99.toNat dSt16).c2) (b_ := (ss.getD p99.toNat dSt16).c3) (img := (q52.take (((r36.length : Int) - (mn cut_ (r36.length : Int))).toNat))) (l := []) (hm := h212) B _) fun w214 hs216 => ?_
     refine zE 5 (hK210 _ _ ?_)
     refine W.sr fun K217 hK217 => ?_
     refine zR 1 ?_
     refine zG ⟨b64, 0, none⟩ [(zi p47), (zi p48), (zi p49)] (cells_sub (hs216.heapAt 3 rfl) rfl) ?_
     refine zR 1 ?_
     refine zL ⟨b119, 2, none⟩ (zi ((ss.getD p99.toNat dSt16).c2)) (hs216.cellAt 1 rfl rfl) ?_
     refine zR 1 ?_
     refine zL ⟨b119, 3, none⟩ (zi ((ss.getD p99.toNat dSt16).c3)) (hs216.cellAt 1 rfl rfl) ?_
     obtain ⟨r218, h219, hm⟩ := bind_some hm
     have hs220 := St.f4 hs216
     refine zC11 hs220 (rWithin16_walk (vb := b77) (gw := p47) (gi := p48) (gb := p49) (a_ := (ss.getD p99.toNat dSt16).c2) (b_ := (ss.getD p99.toNat dSt16).c3) (img := (q52.take (((r36.length : Int) - (mn cut_ (r36.length : Int))).toNat))) (l := []) (hm := h219) B _) fun w221 hs223 => ?_
     refine zE 5 (hK217 _ _ ?_)
     refine W.region ?_
     refine zR 4 ?_
     rcases Bool.eq_false_or_eq_true (r211.1 == r218.1) with h224 | h224
     ·
      have h224p : ((r211.1 = true) ↔ (r218.1 = true)) := beq_yes Iff.rfl Iff.rfl h224
      replace hm := ite_yes hm h224p
      refine zS 148 h224 ?_
      refine zS 147 h224 ?_
      refine zE 5 ?_
      refine normal_block ?_
      have hs225 := St.f6 hs223
      have hs226 := St.f6 hs225
      have hs227 := St.f4 hs226
      have hs228 := St.f3 hs227
      have hs229 := St.f4 hs228
      have hs230 := St.f6 hs229
      have hs231 := St.f6 hs230
      exact ⟨(decide (r211.2 = r218.2)), slots_intro _ (by kernel_rfl), hs231, hm⟩
     have h224p : ¬ ((r211.1 = true) ↔ (r218.1 = true)) := beq_no Iff.rfl Iff.rfl h224
     replace hm := ite_no hm h224p
     refine zS 148 h224 ?_
     refine zS 147 h224 ?_
     refine zE 5 ?_
     refine normal_block ?_
     have hs232 := St.f6 hs223
     have hs233 := St.f6 hs232
     have hs234 := St.f4 hs233
     have hs235 := St.f3 hs234
     have hs236 := St.f4 hs235
     have hs237 := St.f6 hs236
     have hs238 := St.f6 hs237
     exact ⟨false, slots_intro _ (by kernel_rfl), hs238, hm⟩
    obtain ⟨h112p, hm⟩ := iN hm h112
    refine W.exit (exit_seq (exit_seq (exit_here ?_)))
    have hs239 := St.f5 hs103
    have hs240 := St.f1 hs239
    have hs241 := St.f2 hs240
    have hs242 := St.f5 hs241
    have hs243 := St.f5 hs242
    have hs244 := St.f5 hs243
    exact ⟨slots_intro _ (by kernel_rfl), hs244, hm⟩
   refine W.sr fun K245 hK245 => ?_
   refine zE 1 (hK245 _ _ ?_)
   refine W.block ?_
   refine W.loop_iter (G := (List Int) × Int) (σ := (List Int) × Int) (fun | (q246, p247) => (q246, p247)) (fun | (q246, p247), s_, w_ => (∃ us, s_ = slots 221 [(3, (.slice ta ts.length tc)), (4, (.int .u16 cut_)), (5, (.slice sa ss.length sc)), (8, (zp b4)), (15, (.slice a34 r36.length c35)), (16, (zi p247))] us) ∧ St B w [] w_ [zb b4 24 [(zi p47), (zi p48), (zi p49)], kU64.row a34 c35 q246, zb b43 24 [(zi 1), (zi (2 + (19 : Int) % 20)), (zi (2 + (59 : Int) % 60))]]) (r36, 0) ⟨slots_intro _ (by kernel_rfl), hs51⟩ hm ?_
   rintro k248 ih249 ⟨q246, p247⟩ _ w250 ⟨⟨us, rfl⟩, hs251⟩ hm
   replace hm : pathplays_B1 ts cut_ ss r36 p47 p48 p49 k248 q246 p247 = some true := hm
   unfold pathplays_B1 at hm
   refine W.seq fun K252 hK252 => ?_
   refine W.sr fun K253 hK253 => ?_
   refine zE 4 (hK253 _ _ ?_)
   refine W.cond (decide (p247 < (ts.length : Int))) (by kernel_rfl) (fun h254 => ?_) (fun h254 => ?_)
   ·
    obtain ⟨h254p, hm⟩ := iY hm h254
    refine W.skip ?_
    refine hK252 _ _ ?_
    refine W.seq fun K255 hK255 => ?_
    refine W.block ?_
    have hs256 := hs251.drew
    have hs257 := St.f2 hs256
    have hs258 := St.f1 hs257
    have hs259 := St.tk2 hs258
    refine W.regionD [(0, 0), (0, 0), (0, 0), (6, 6), (8, 8), (16, 16), (32, 32), (0, 0), (128, 128), (320, 320), (0, 0), (0, 0), (3072, 3072), (4096, 4096), (8192, 8192), (32767, 513), (65535, 49152)] (fun w_ => St B w [] w_ [zb b4 24 [(zi p47), (zi p48), (zi p49)], zb b43 24 [(zi 1), (zi (2 + (19 : Int) % 20)), (zi (2 + (59 : Int) % 60))]]) (by kernel_rfl) hs259 ?_
    refine zA (.slice a34 r36.length c35) 0 hs259 ?_
    refine zA (.slice ta ts.length tc) 1 hs259 ?_
    refine zA (zi p247) 2 hs259 ?_
    obtain ⟨h261, hm⟩ := need_some hm
    have hk260 := lt_toNat h261
    refine any_R 3 (by kernel_rfl) (fun _ hS_ => runs_index (a := ta) (n := ts.length) (z := p247) (size := 2) p247.toNat (nat_of h261.1) hk260 (kTn.addr (hs256.oldCells ht) hk260) (by kernel_rfl)) hs259 ?_
    refine zA (.pointer (some (adr ta (p247.toNat * 2)))) 4 hs259 ?_
    refine zB 5 ((adr ta (p247.toNat * 2)).add 0) (.int .u16 ((ts.getD p247.toNat dTn).c0)) (fun _ hS_ => (kTn.at (hS_.oldCells ht) hk260 dTn 0 rfl)) hs259 ?_
    obtain ⟨h262, hm⟩ := need_some hm
    refine any_val (v := .int .i64 (IntKind.i64.wrap ((ts.getD p247.toNat dTn).c0))) (v' := .int .i64 ((ts.getD p247.toNat dTn).c0)) 6 (by kernel_rfl) (fun _ => by kernel_rfl) (congrArg (Value.int .i64) (wrap_i64 h262.1 h262.2)) hs259 ?_
    refine zA (.slice a34 r36.length c35) 7 hs259 ?_
    refine zA (zi (r36.length : Int)) 8 hs259 ?_
    obtain ⟨h263, hm⟩ := need_some hm
    refine any_R (v := .int .i64 (((ts.getD p247.toNat dTn).c0).tmod (r36.length : Int))) 9 (by kernel_rfl) (fun _ hS_ => runs_rem (k := .i64) (a := (ts.getD p247.toNat dTn).c0) (b := (r36.length : Int)) (by kernel_rfl) h263 rfl) hs259 ?_
    refine zA (.slice ta ts.length tc) 10 hs259 ?_
    refine zA (zi p247) 11 hs259 ?_
    obtain ⟨h265, hm⟩ := need_some hm
    have hk264 := lt_toNat h265
    refine any_R 12 (by kernel_rfl) (fun _ hS_ => runs_index (a := ta) (n := ts.length) (z := p247) (size := 2) p247.toNat (nat_of h265.1) hk264 (kTn.addr (hs256.oldCells ht) hk264) (by kernel_rfl)) hs259 ?_
    refine zA (.pointer (some ((adr ta (p247.toNat * 2)).add 1))) 13 hs259 ?_
    refine zB 14 ((adr ta (p247.toNat * 2)).add 1) (zu ((ts.getD p247.toNat dTn).c1)) (fun _ hS_ => (kTn.at (hS_.oldCells ht) hk264 dTn 1 rfl)) hs259 ?_
    obtain ⟨h267, hm⟩ := need_some hm
    have hk266 := lt_toNat h267
    obtain ⟨h269, hm⟩ := need_some hm
    have hk268 := h269
    refine any_R 15 (by kernel_rfl) (fun _ hS_ => runs_index (a := a34) (n := r36.length) (z := (((ts.getD p247.toNat dTn).c0).tmod (r36.length : Int))) (size := 1) ((((ts.getD p247.toNat dTn).c0).tmod (r36.length : Int)).toNat) (nat_of h267.1) hk266 (kU64.addr (St.kcells kU64 hs256 1 rfl) hk268) (by kernel_rfl)) hs259 ?_
    refine any_step 16 (by kernel_rfl) (by kernel_rfl) ?_
    have hs272 := St.f1 hs256
    refine ops_storeK kU64 (j := 0) (vs := [(zu ((ts.getD p247.toNat dTn).c1))]) 0 ((ts.getD p247.toNat dTn).c1) hs272 hk268 (Nat.le_of_ble_eq_true rfl) (by simp) rfl rfl (by kernel_rfl) (fun w270 hs271 => ?_)
    have hs274 := St.f2 hs271
    have hs275 := St.f2 hs274
    have hs276 := St.tk2 hs275
    refine ops_done (by kernel_rfl) ⟨hs276, ?_⟩
    refine any_done (by kernel_rfl) ?_
    refine normal_block ?_
    refine hK255 _ _ ?_
    refine W.region ?_
    refine zR 1 ?_
    obtain ⟨h277, hm⟩ := need_some hm
    refine zI _ (wrap_i64 h277.1 h277.2) ?_
    refine zE 1 ?_
    have hs278 := St.f2 hs271
    have hs279 := St.f1 hs278
    have hs280 := St.f2 hs279
    refine loopAt_next ?_
    exact ih249 ((q246.set ((((ts.getD p247.toNat dTn).c0).tmod (r36.length : Int)).toNat) ((ts.getD p247.toNat dTn).c1)), (p247 + 1)) _ _ ⟨slots_intro _ (by kernel_rfl), hs280⟩ hm
   obtain ⟨h254p, hm⟩ := iN hm h254
   refine W.exit (exit_seq (exit_seq (exit_here ?_)))
   exact ⟨q246, slots_intro _ (by kernel_rfl), hs251, hm⟩
  refine W.sr fun K281 hK281 => ?_
  refine zE 2 (hK281 _ _ ?_)
  refine W.cond (!o_) (by kernel_rfl) (fun h282 => ?_) (fun h282 => ?_)
  rotate_left
  ·
   have h282p : o_ = true := (bnot_false h282)
   replace hm := ite_yes hm h282p
   refine W.skip ?_
   have hs283 := St.f1 hs46
   have hs284 := St.f2 hs283
   exact ⟨gw, gi, gb, slots_intro _ (by kernel_rfl), hs284, hm⟩
  have h282p : ¬ (o_ = true) := ne_true_of_eq_false (bnot_true h282)
  replace hm := ite_no hm h282p
  refine W.region ?_
  refine zG ⟨b43, 0, none⟩ [(zi 1), (zi (2 + (19 : Int) % 20)), (zi (2 + (59 : Int) % 60))] (cells_sub (hs46.heapAt 0 rfl) rfl) ?_
  have hs287 := St.f2 hs46
  refine zT 0 [(zi 1), (zi (2 + (19 : Int) % 20)), (zi (2 + (59 : Int) % 60))] [(zi 1), (zi (2 + (19 : Int) % 20)), (zi (2 + (59 : Int) % 60))] hs287 fun w285 hs288 => ?_
  refine zD ?_
  have hs289 := St.f1 hs288
  have hs290 := St.f2 hs289
  have hs291 := St.f2 hs290
  exact ⟨1, (2 + (19 : Int) % 20), (2 + (59 : Int) % 60), slots_intro _ (by kernel_rfl), hs291, hm⟩
 refine W.sr fun K292 hK292 => ?_
 refine zE 1 (hK292 _ _ ?_)
 refine W.block ?_
 refine W.loop_iter (G := Int) (σ := Int) (fun | p293 => p293) (fun | p293, s_, w_ => (∃ us, s_ = slots 221 [(0, (.slice ma ms.length mc)), (1, (.bool o_)), (3, (.slice ta ts.length tc)), (4, (.int .u16 cut_)), (5, (.slice sa ss.length sc)), (8, (zp b4)), (13, (zi p293))] us) ∧ St B w [] w_ [zb b4 24 [(zi gw), (zi gi), (zi gb)]]) 0 ⟨slots_intro _ (by kernel_rfl), hs3⟩ hm ?_
 rintro k294 ih295 p293 _ w296 ⟨⟨us, rfl⟩, hs297⟩ hm
 replace hm : pathplays_B0 ms o_ gw gi gb ts cut_ ss k294 p293 = some true := hm
 unfold pathplays_B0 at hm
 refine W.seq fun K298 hK298 => ?_
 refine W.sr fun K299 hK299 => ?_
 refine zE 4 (hK299 _ _ ?_)
 refine W.cond (decide (p293 < (ss.length : Int))) (by kernel_rfl) (fun h300 => ?_) (fun h300 => ?_)
 ·
  obtain ⟨h300p, hm⟩ := iY hm h300
  refine W.skip ?_
  refine hK298 _ _ ?_
  refine W.seq fun K301 hK301 => ?_
  refine W.block ?_
  refine W.sr fun K302 hK302 => ?_
  refine zR 2 ?_
  obtain ⟨h304, hm⟩ := need_some hm
  have hk303 := lt_toNat h304
  refine ops_R (runs_index (a := sa) (n := ss.length) (z := p293) (size := 4) p293.toNat (nat_of h304.1) hk303 (kSt16.addr (hs297.oldCells hst) hk303) (by kernel_rfl)) ?_
  refine zR 1 ?_
  refine zL ((adr sa (p293.toNat * 4)).add 1) (.string ((ss.getD p293.toNat dSt16).c1)) (kSt16.at (hs297.oldCells hst) hk303 dSt16 1 rfl) ?_
  refine zE 2 (hK302 _ _ ?_)
  refine W.cond (decide ((((ss.getD p293.toNat dSt16).c1).size : Int) > 1000)) (by kernel_rfl) (fun h305 => ?_) (fun h305 => ?_)
  ·
   obtain ⟨h305p, hm⟩ := iY hm h305
   refine W.sr fun K306 hK306 => ?_
   obtain ⟨r307, h308, hm⟩ := bind_some hm
   refine zC00 hs297 (works16_walk (hm := h308) B _) fun w309 hs311 => ?_
   refine zE 1 (hK306 _ _ ?_)
   refine W.ret (ret_block (ret_seq (ret_seq (ret_block (ret_seq ?_)))))
   have hs312 := St.tk0 hs311
   refine ret_of (.bool r307) (by kernel_rfl) ⟨_, ⟨congrArg Value.bool (some_inj hm), rfl⟩, hs312⟩
  obtain ⟨h305p, hm⟩ := iN hm h305
  refine W.skip ?_
  refine normal_block ?_
  refine hK301 _ _ ?_
  refine W.region ?_
  refine zR 1 ?_
  obtain ⟨h313, hm⟩ := need_some hm
  refine zI _ (wrap_i64 h313.1 h313.2) ?_
  refine zE 1 ?_
  refine loopAt_next ?_
  exact ih295 (p293 + 1) _ _ ⟨slots_intro _ (by kernel_rfl), hs297⟩ hm
 obtain ⟨h300p, hm⟩ := iN hm h300
 refine W.exit (exit_seq (exit_seq (exit_here ?_)))
 exact ⟨slots_intro _ (by kernel_rfl), hs297, hm⟩
end Go.Proofs.YtmmclabkkigiaaaGreat

namespace Go.Proofs.YtmmclabkkigiaaaGreat
open Go Go.RowKit
theorem pathplays_go {ts : List TTn} {cut_ gw gi gb : Int} {ss : List TSt16} {ws : List Int} (hc : 0 ≤ cut_ ∧ cut_ ≤ 65535) (ht : ∀ x ∈ ts, good_Tn x) (htl : ts.length ≤ 40) (hsl : ss.length ≤ 40) (hw : ws.length = 1312) (hu : ∀ x ∈ ws, U64 x) : Ok (· = true) (pathplays_J2 ts cut_ ss ws gw gi gb) := by
  unfold pathplays_J2
  refine Ok.iter (fun s : List Int × Int => (s.1.length = 1312 ∧ ∀ x ∈ s.1, U64 x) ∧ 0 ≤ s.2) (fun s => ((ts.length : Int) - s.2).toNat) ?_ _ _ ⟨⟨hw, hu⟩, by simp⟩ (fuel_lt (by simp only; omega))
  rintro k ⟨q, p⟩ ⟨⟨h1, h2⟩, h3⟩ ih
  simp only at h1 h2 h3 ih
  show Ok _ (pathplays_B1 ts cut_ ss ws gw gi gb k q p)
  unfold pathplays_B1
  refine Ok.ite (fun hp => ?_) fun hp => ?_
  · have hg : good_Tn (ts.getD p.toNat dTn) := by
      have hil : p.toNat < ts.length := by omega
      have : ts.getD p.toNat dTn ∈ ts := by rw [List.getD_eq_getElem?_getD, List.getElem?_eq_getElem hil]; exact List.getElem_mem hil
      exact ht _ this
    obtain ⟨g0, g1⟩ := hg
    have et : ((ts.getD p.toNat dTn).c0).tmod (ws.length : Int) = ((ts.getD p.toNat dTn).c0) % (ws.length : Int) := Int.tmod_eq_emod_of_nonneg g0.1
    rw [et, hw]
    refine Ok.need (by omega) (Ok.need (by omega) (Ok.need (by decide) (Ok.need (by omega) (Ok.need (by omega) (Ok.need (by omega) (Ok.need (by omega) (ih _ ⟨⟨by simp only [List.length_set]; exact h1, fun x hx => ?_⟩, by simp only; omega⟩ (by simp only; omega))))))))
    simp only at hx
    rcases List.mem_or_eq_of_mem_set hx with w | w
    · exact h2 x w
    · rw [w]; unfold U64; omega
  · unfold pathplays_J3
    rw [hw]
    have hm : 0 ≤ mn cut_ ((1312 : Nat) : Int) ∧ mn cut_ ((1312 : Nat) : Int) ≤ 1312 := by unfold mn; split <;> omega
    refine Ok.need (by omega) (Ok.need (by omega) (Ok.need (by omega) (Ok.need h1.symm (Ok.need (by rw [List.length_take]; omega) (Ok.need (by rw [List.length_take]; omega) ?_)))))
    obtain ⟨img, himg⟩ : ∃ img, img = q.take (((1312 : Nat) : Int) - mn cut_ ((1312 : Nat) : Int)).toNat := ⟨_, rfl⟩
    have hil : img.length ≤ 6232 := by rw [himg, List.length_take]; omega
    have hiu : ∀ x ∈ img, U64 x := fun x hx => h2 x (by rw [himg] at hx; exact List.mem_of_mem_take hx)
    have hVI : VI img [] := VI.nil hiu (by omega)
    refine Ok.iter (fun p : Int => 0 ≤ p) (fun p => ((ss.length : Int) - p).toNat) ?_ _ _ (by omega) (fuel_lt (by omega))
    intro k2 p2 hp2 ih2
    unfold pathplays_B2
    rw [hw, ← himg]
    have J6 : p2 < (ss.length : Int) → Ok (· = true) (pathplays_J6 k2 p2 true) := fun hlt => by
      unfold pathplays_J6
      exact Ok.yes rfl (Ok.need (by omega) (ih2 _ (by omega) (by omega)))
    refine Ok.ite (fun hlt => Ok.need (by omega) (Ok.ite (fun _ => ?_) fun _ => Ok.ite (fun _ => ?_) fun _ => ?_)) fun _ => ?_
    · obtain ⟨r, e1, e2⟩ := Walk_eq (gw := gw) (gi := gi) (gb := gb) hVI hil (ss.getD p2.toNat dSt16).c1
      refine Ok.got15 e1 (Ok.got15 e2 (Ok.yes rfl ?_))
      rw [decide_eq_true rfl]
      exact J6 hlt
    · obtain ⟨r, e1, e2⟩ := Parent_eq (gw := gw) (gi := gi) (gb := gb) hVI hil (ss.getD p2.toNat dSt16).c1
      refine Ok.got15 e1 (Ok.got15 e2 (Ok.yes rfl (Ok.yes (beq_toList.2 rfl) ?_)))
      rw [decide_eq_true rfl]
      exact J6 hlt
    · obtain ⟨r, e1, e2⟩ := Within_eq (gw := gw) (gi := gi) (gb := gb) hVI (ss.getD p2.toNat dSt16).c2 (ss.getD p2.toNat dSt16).c3
      refine Ok.got15 e1 (Ok.got15 e2 (Ok.yes Iff.rfl ?_))
      rw [decide_eq_true rfl]
      exact J6 hlt
    · unfold pathplays_J4
      exact works16_stop
theorem pathplays_law {ms : List TMk} {o_ : Bool} {gw gi gb : Int} {ts : List TTn} {cut_ : Int} {ss : List TSt16} (hc : 0 ≤ cut_ ∧ cut_ ≤ 65535) (hm : ∀ x ∈ ms, good_Mk x) (ht : ∀ x ∈ ts, good_Tn x) : pathplays_M ms o_ gw gi gb ts cut_ ss = some true := by
  refine Ok.true ?_
  unfold pathplays_M
  refine Ok.ite (fun _ => works16_stop) fun h1 => Ok.ite (fun _ => works16_stop) fun h2 => Ok.ite (fun _ => works16_stop) fun h3 => ?_
  refine Ok.iter (fun p : Int => 0 ≤ p) (fun p => ((ss.length : Int) - p).toNat) ?_ _ _ (by omega) (fuel_lt (by omega))
  intro k p hp ih
  unfold pathplays_B0
  refine Ok.ite (fun hlt => Ok.need (by omega) (Ok.ite (fun _ => works16_stop) fun _ => Ok.need (by omega) (ih _ (by omega) (by omega)))) fun _ => ?_
  unfold pathplays_J1
  refine Ok.bind (tree_ok hm (by omega)) fun ws hws => Ok.ite (fun _ => ?_) fun _ => ?_
  · exact pathplays_go hc ht (by omega) (by omega) hws.1 hws.2
  · exact pathplays_go hc ht (by omega) (by omega) hws.1 hws.2
end Go.Proofs.YtmmclabkkigiaaaGreat

namespace Go.Proofs.YtmmclabkkigiaaaGreat
open Go Go.RowKit
structure TGeo where
  c0 : Int
  c1 : Int
  c2 : Int
def kGeo : Kind TGeo := ⟨24, 3, fun x => [.int .i64 x.c0, .int .i64 x.c1, .int .i64 x.c2], by decide, fun _ => rfl, fun _ => rfl⟩
def good_Geo (x : TGeo) : Prop := (-9223372036854775808 ≤ x.c0 ∧ x.c0 ≤ 9223372036854775807) ∧ (-9223372036854775808 ≤ x.c1 ∧ x.c1 ≤ 9223372036854775807) ∧ (-9223372036854775808 ≤ x.c2 ∧ x.c2 ≤ 9223372036854775807)
end Go.Proofs.YtmmclabkkigiaaaGreat

namespace Go.Proofs.YtmmclabkkigiaaaGreat
open Go.ChangeShapes Go.WideShapes Go.ChangeAt Go.RowKit Go.Deep
inductive Leaf where
  | int (k : IntKind)
  | bool
def LeafOk : Leaf → Value → Prop
  | .int k, v => ∃ z, v = .int k z ∧ (Lit.int k z).wf = true
  | .bool, v => ∃ b, v = .bool b
def LeavesOk : List Leaf → List Value → Prop
  | [], [] => True
  | k :: ks, v :: vs => LeafOk k v ∧ LeavesOk ks vs
  | _, _ => False
theorem LeavesOk.append : ∀ {ks ks' : List Leaf} {vs vs' : List Value}, LeavesOk ks vs → LeavesOk ks' vs' → LeavesOk (ks ++ ks') (vs ++ vs')
  | [], _, [], _, _, h => h
  | _ :: _, _, _ :: _, _, h, h' => ⟨h.1, LeavesOk.append h.2 h'⟩
def leavesF (P : Program) (lv : TypeId → Option (List Leaf)) : Nat → List Field → Option (List Leaf)
  | _, [] => some []
  | off, f :: fs => match lv f.type with
    | some l => if f.offset = off ∧ P.cellsOf f.type = l.length then (leavesF P lv (off + l.length) fs).map (l ++ ·) else none
    | none => none
def leaves (P : Program) : Nat → TypeId → Option (List Leaf)
  | 0, _ => none
  | m + 1, t => match P.underlying t with
    | some (.int k) => some [.int k]
    | some .bool => some [.bool]
    | some (.struct fs) => match leavesF P (leaves P m) 0 fs.toList with
      | some ks => if P.cellsOf t = ks.length then some ks else none
      | none => none
    | some (.array n e) => match leaves P m e with
      | some l => if P.cellsOf e = l.length ∧ P.cellsOf t = n * l.length then some ((List.replicate n l).flatten) else none
      | none => none
    | _ => none
section
variable {H : Type} {enc : TypeId × Value → H} {P : Program} {w : World} {base : Nat} {sp : Nat → Bool} {held : Bool}
theorem leavesF_ok {lv : TypeId → Option (List Leaf)} (hlv : ∀ (t : TypeId) (ks : List Leaf) (n : Nat) (cs : List Value) (y : DataW H × List MemPlace), lv t = some ks → DataW.trod enc P w base sp held n t cs = some y → LeavesOk ks cs) {cs : List Value} :
    ∀ (fs : List Field) (off : Nat) (ks : List Leaf), leavesF P lv off fs = some ks → (∀ (i : Nat) (f : Field), fs[i]? = some f → ∃ n y, DataW.trod enc P w base sp held n f.type ((cs.drop f.offset).take (P.cellsOf f.type)) = some y) →
      LeavesOk ks ((cs.drop off).take ks.length)
  | [], off, ks, h, _ => by
    simp only [leavesF, Option.some.injEq] at h
    subst h
    simp [LeavesOk]
  | f :: fs, off, ks, h, ht => by
    unfold leavesF at h
    split at h
    · rename_i l hl
      split at h
      · rename_i hc
        simp only [Option.map_eq_some_iff] at h
        obtain ⟨ks', hk', rfl⟩ := h
        obtain ⟨n, y, hy⟩ := ht 0 f rfl
        rw [hc.1, hc.2] at hy
        have h1 := hlv _ _ _ _ _ hl hy
        have h2 := leavesF_ok hlv fs (off + l.length) ks' hk' (fun i g hg => ht (i + 1) g (by simpa using hg))
        have e : (cs.drop off).take (l ++ ks').length = (cs.drop off).take l.length ++ (cs.drop (off + l.length)).take ks'.length := by
          rw [List.length_append, List.take_add, List.drop_drop]
        rw [e]
        exact h1.append h2
      · cases h
    · cases h
theorem leavesA_ok {l : List Leaf} {cs : List Value} : ∀ n : Nat, (∀ i, i < n → LeavesOk l ((cs.drop (i * l.length)).take l.length)) → LeavesOk ((List.replicate n l).flatten) (cs.take (n * l.length))
  | 0, _ => by simp [LeavesOk]
  | n + 1, h => by
    have h1 := leavesA_ok n (fun i hi => h i (by omega))
    have h2 := h n (by omega)
    have e1 : (List.replicate (n + 1) l).flatten = (List.replicate n l).flatten ++ l := by
      rw [List.replicate_succ', List.flatten_append]
      simp
    have e2 : cs.take ((n + 1) * l.length) = cs.take (n * l.length) ++ (cs.drop (n * l.length)).take l.length := by
      rw [Nat.add_mul, Nat.one_mul, List.take_add]
    rw [e1, e2]
    exact h1.append h2
theorem leaves_ok : ∀ (m : Nat) (t : TypeId) (ks : List Leaf) (n : Nat) (cs : List Value) (y : DataW H × List MemPlace), leaves P m t = some ks → DataW.trod enc P w base sp held n t cs = some y → LeavesOk ks cs
  | 0, t, ks, n, cs, y, h, _ => by simp [leaves] at h
  | m + 1, t, ks, n, cs, y, h, hy => by
    unfold leaves at h
    split at h
    · rename_i k hu
      cases h
      obtain ⟨z, rfl, _, hz⟩ := DataW.trod_int hu hy
      exact ⟨⟨z, rfl, hz⟩, trivial⟩
    · rename_i hu
      cases h
      cases n with
      | zero => simp [DataW.trod] at hy
      | succ n =>
        unfold DataW.trod at hy
        rw [hu] at hy
        split at hy <;> simp_all [LeavesOk, LeafOk]
    · rename_i fs hu
      split at h
      · rename_i ks' hks
        split at h
        · rename_i hc
          cases h
          obtain ⟨xs, n', rfl, _, hlen, hxl, hf⟩ := DataW.trod_struct hu hy
          have h1 := leavesF_ok (cs := cs) (leaves_ok m) fs.toList 0 _ hks (fun i f hi => by
            have hi' : fs[i]? = some f := by simpa using hi
            have := hf i f hi'
            have hil : i < xs.length := by rw [hxl]; exact (Array.getElem?_eq_some_iff.1 hi').1
            rw [List.getElem?_eq_getElem hil] at this
            exact ⟨_, _, this⟩)
          simpa [← hc, ← hlen] using h1
        · cases h
      · cases h
    · rename_i k e hu
      split at h
      · rename_i l hl
        split at h
        · rename_i hc
          cases h
          obtain ⟨xs, n', rfl, _, hlen, hxl, hf⟩ := DataW.trod_array hu hy
          have h1 := leavesA_ok (l := l) (cs := cs) k (fun i hi => by
            have := hf i hi
            have hil : i < xs.length := by rw [hxl]; exact hi
            rw [List.getElem?_eq_getElem hil, hc.1] at this
            exact leaves_ok m _ _ _ _ _ hl this)
          simpa [← hc.2, ← hlen] using h1
        · cases h
      · cases h
    · cases h
theorem open_agg {α : Type} (K : Kind α) (good : α → Prop) {fs : Array Field} {ks : List Leaf} (m : Nat) (hs : P.underlying K.e = some (.struct fs)) (hl : leaves P m K.e = some ks) (hread : ∀ cs, LeavesOk ks cs → ∃ x, cs = K.elem x ∧ good x)
    {r : Reach} {b0 : Nat} {v : Value} {d : DataW H} {ps : List MemPlace} (hval : Value.okWide P w r b0 K.e v) (h : DataW.Trod enc P w base sp held K.e v d ps) : ∃ x, v = .agg (K.elem x).toArray ∧ good x := by
  obtain ⟨cs, rfl, _⟩ := okWide_struct hs hval
  obtain ⟨fuel, h⟩ := h
  have h' : DataW.trod enc P w base sp held fuel K.e cs.toList = some (d, ps) := h
  obtain ⟨x, hx, hg⟩ := hread _ (leaves_ok m _ _ _ _ _ hl h')
  exact ⟨x, by rw [← hx], hg⟩
end
theorem leaves_cons {k : Leaf} {ks : List Leaf} : ∀ {cs : List Value}, LeavesOk (k :: ks) cs → ∃ v vs, cs = v :: vs ∧ LeafOk k v ∧ LeavesOk ks vs
  | v :: vs, h => ⟨v, vs, rfl, h.1, h.2⟩
  | [], h => h.elim
theorem leaves_nil : ∀ {cs : List Value}, LeavesOk [] cs → cs = []
  | [], _ => rfl
  | _ :: _, h => h.elim
end Go.Proofs.YtmmclabkkigiaaaGreat

namespace Go.Proofs.YtmmclabkkigiaaaGreat
namespace WithText
open Go.ChangeShapes Go.WideShapes Go.ChangeAt Go.RowKit Go.Deep
inductive Leaf where
  | int (k : IntKind)
  | bool
  | string
def LeafOk : Leaf → Value → Prop
  | .int k, v => ∃ z, v = .int k z ∧ (Lit.int k z).wf = true
  | .bool, v => ∃ b, v = .bool b
  | .string, v => ∃ b, v = .string b ∧ b.size ≤ maxLen
def LeavesOk : List Leaf → List Value → Prop
  | [], [] => True
  | k :: ks, v :: vs => LeafOk k v ∧ LeavesOk ks vs
  | _, _ => False
theorem LeavesOk.append : ∀ {ks ks' : List Leaf} {vs vs' : List Value}, LeavesOk ks vs → LeavesOk ks' vs' → LeavesOk (ks ++ ks') (vs ++ vs')
  | [], _, [], _, _, h => h
  | _ :: _, _, _ :: _, _, h, h' => ⟨h.1, LeavesOk.append h.2 h'⟩
def leavesF (P : Program) (lv : TypeId → Option (List Leaf)) : Nat → List Field → Option (List Leaf)
  | _, [] => some []
  | off, f :: fs => match lv f.type with
    | some l => if f.offset = off ∧ P.cellsOf f.type = l.length then (leavesF P lv (off + l.length) fs).map (l ++ ·) else none
    | none => none
def leaves (P : Program) : Nat → TypeId → Option (List Leaf)
  | 0, _ => none
  | m + 1, t => match P.underlying t with
    | some (.int k) => some [.int k]
    | some .bool => some [.bool]
    | some .string => some [.string]
    | some (.struct fs) => match leavesF P (leaves P m) 0 fs.toList with
      | some ks => if P.cellsOf t = ks.length then some ks else none
      | none => none
    | some (.array n e) => match leaves P m e with
      | some l => if P.cellsOf e = l.length ∧ P.cellsOf t = n * l.length then some ((List.replicate n l).flatten) else none
      | none => none
    | _ => none
section
variable {H : Type} {enc : TypeId × Value → H} {P : Program} {w : World} {base : Nat} {sp : Nat → Bool} {held : Bool}
theorem leavesF_ok {lv : TypeId → Option (List Leaf)} (hlv : ∀ (t : TypeId) (ks : List Leaf) (n : Nat) (cs : List Value) (y : DataW H × List MemPlace), lv t = some ks → DataW.trod enc P w base sp held n t cs = some y → LeavesOk ks cs) {cs : List Value} :
    ∀ (fs : List Field) (off : Nat) (ks : List Leaf), leavesF P lv off fs = some ks → (∀ (i : Nat) (f : Field), fs[i]? = some f → ∃ n y, DataW.trod enc P w base sp held n f.type ((cs.drop f.offset).take (P.cellsOf f.type)) = some y) →
      LeavesOk ks ((cs.drop off).take ks.length)
  | [], off, ks, h, _ => by
    simp only [leavesF, Option.some.injEq] at h
    subst h
    simp [LeavesOk]
  | f :: fs, off, ks, h, ht => by
    unfold leavesF at h
    split at h
    · rename_i l hl
      split at h
      · rename_i hc
        simp only [Option.map_eq_some_iff] at h
        obtain ⟨ks', hk', rfl⟩ := h
        obtain ⟨n, y, hy⟩ := ht 0 f rfl
        rw [hc.1, hc.2] at hy
        have h1 := hlv _ _ _ _ _ hl hy
        have h2 := leavesF_ok hlv fs (off + l.length) ks' hk' (fun i g hg => ht (i + 1) g (by simpa using hg))
        have e : (cs.drop off).take (l ++ ks').length = (cs.drop off).take l.length ++ (cs.drop (off + l.length)).take ks'.length := by
          rw [List.length_append, List.take_add, List.drop_drop]
        rw [e]
        exact h1.append h2
      · cases h
    · cases h
theorem leavesA_ok {l : List Leaf} {cs : List Value} : ∀ n : Nat, (∀ i, i < n → LeavesOk l ((cs.drop (i * l.length)).take l.length)) → LeavesOk ((List.replicate n l).flatten) (cs.take (n * l.length))
  | 0, _ => by simp [LeavesOk]
  | n + 1, h => by
    have h1 := leavesA_ok n (fun i hi => h i (by omega))
    have h2 := h n (by omega)
    have e1 : (List.replicate (n + 1) l).flatten = (List.replicate n l).flatten ++ l := by
      rw [List.replicate_succ', List.flatten_append]
      simp
    have e2 : cs.take ((n + 1) * l.length) = cs.take (n * l.length) ++ (cs.drop (n * l.length)).take l.length := by
      rw [Nat.add_mul, Nat.one_mul, List.take_add]
    rw [e1, e2]
    exact h1.append h2
theorem leaves_ok : ∀ (m : Nat) (t : TypeId) (ks : List Leaf) (n : Nat) (cs : List Value) (y : DataW H × List MemPlace), leaves P m t = some ks → DataW.trod enc P w base sp held n t cs = some y → LeavesOk ks cs
  | 0, t, ks, n, cs, y, h, _ => by simp [leaves] at h
  | m + 1, t, ks, n, cs, y, h, hy => by
    unfold leaves at h
    split at h
    · rename_i k hu
      cases h
      obtain ⟨z, rfl, _, hz⟩ := DataW.trod_int hu hy
      exact ⟨⟨z, rfl, hz⟩, trivial⟩
    · rename_i hu
      cases h
      cases n with
      | zero => simp [DataW.trod] at hy
      | succ n =>
        unfold DataW.trod at hy
        rw [hu] at hy
        split at hy <;> simp_all [LeavesOk, LeafOk]
    · rename_i hu
      cases h
      obtain ⟨b, rfl, _, hz⟩ := DataW.trod_string hu hy
      exact ⟨⟨b, rfl, hz⟩, trivial⟩
    · rename_i fs hu
      split at h
      · rename_i ks' hks
        split at h
        · rename_i hc
          cases h
          obtain ⟨xs, n', rfl, _, hlen, hxl, hf⟩ := DataW.trod_struct hu hy
          have h1 := leavesF_ok (cs := cs) (leaves_ok m) fs.toList 0 _ hks (fun i f hi => by
            have hi' : fs[i]? = some f := by simpa using hi
            have := hf i f hi'
            have hil : i < xs.length := by rw [hxl]; exact (Array.getElem?_eq_some_iff.1 hi').1
            rw [List.getElem?_eq_getElem hil] at this
            exact ⟨_, _, this⟩)
          simpa [← hc, ← hlen] using h1
        · cases h
      · cases h
    · rename_i k e hu
      split at h
      · rename_i l hl
        split at h
        · rename_i hc
          cases h
          obtain ⟨xs, n', rfl, _, hlen, hxl, hf⟩ := DataW.trod_array hu hy
          have h1 := leavesA_ok (l := l) (cs := cs) k (fun i hi => by
            have := hf i hi
            have hil : i < xs.length := by rw [hxl]; exact hi
            rw [List.getElem?_eq_getElem hil, hc.1] at this
            exact leaves_ok m _ _ _ _ _ hl this)
          simpa [← hc.2, ← hlen] using h1
        · cases h
      · cases h
    · cases h
theorem open_agg {α : Type} (K : Kind α) (good : α → Prop) {fs : Array Field} {ks : List Leaf} (m : Nat) (hs : P.underlying K.e = some (.struct fs)) (hl : leaves P m K.e = some ks) (hread : ∀ cs, LeavesOk ks cs → ∃ x, cs = K.elem x ∧ good x)
    {r : Reach} {b0 : Nat} {v : Value} {d : DataW H} {ps : List MemPlace} (hval : Value.okWide P w r b0 K.e v) (h : DataW.Trod enc P w base sp held K.e v d ps) : ∃ x, v = .agg (K.elem x).toArray ∧ good x := by
  obtain ⟨cs, rfl, _⟩ := okWide_struct hs hval
  obtain ⟨fuel, h⟩ := h
  have h' : DataW.trod enc P w base sp held fuel K.e cs.toList = some (d, ps) := h
  obtain ⟨x, hx, hg⟩ := hread _ (leaves_ok m _ _ _ _ _ hl h')
  exact ⟨x, by rw [← hx], hg⟩
end
theorem leaves_cons {k : Leaf} {ks : List Leaf} : ∀ {cs : List Value}, LeavesOk (k :: ks) cs → ∃ v vs, cs = v :: vs ∧ LeafOk k v ∧ LeavesOk ks vs
  | v :: vs, h => ⟨v, vs, rfl, h.1, h.2⟩
  | [], h => h.elim
theorem leaves_nil : ∀ {cs : List Value}, LeavesOk [] cs → cs = []
  | [], _ => rfl
  | _ :: _, h => h.elim
end WithText
end Go.Proofs.YtmmclabkkigiaaaGreat

namespace Go.Proofs.YtmmclabkkigiaaaGreat
open Go.ChangeShapes Go.WideShapes Go.ChangeAt Go.RowKit Go.Deep
theorem leaf_Geo (cs0 : List Value) (e0 : LeavesOk [.int .i64, .int .i64, .int .i64] cs0) : ∃ x, cs0 = kGeo.elem x ∧ good_Geo x := by
  obtain ⟨_, cs1, rfl, ⟨z0, rfl, b0⟩, e1⟩ := leaves_cons e0
  obtain ⟨_, cs2, rfl, ⟨z1, rfl, b1⟩, e2⟩ := leaves_cons e1
  obtain ⟨_, cs3, rfl, ⟨z2, rfl, b2⟩, e3⟩ := leaves_cons e2
  obtain rfl := leaves_nil e3
  simp [Lit.wf, IntKind.min, IntKind.max, IntKind.signed, IntKind.bits] at b0 b1 b2
  refine ⟨⟨z0, z1, z2⟩, rfl, ?_⟩
  simp only [good_Geo]
  omega
theorem leaf_Mk (cs0 : List Value) (e0 : WithText.LeavesOk [.int .u8, .string, .int .u8] cs0) : ∃ x, cs0 = kMk.elem x ∧ good_Mk x := by
  obtain ⟨_, cs1, rfl, ⟨z0, rfl, b0⟩, e1⟩ := WithText.leaves_cons e0
  obtain ⟨_, cs2, rfl, ⟨z1, rfl, _⟩, e2⟩ := WithText.leaves_cons e1
  obtain ⟨_, cs3, rfl, ⟨z2, rfl, b2⟩, e3⟩ := WithText.leaves_cons e2
  obtain rfl := WithText.leaves_nil e3
  simp [Lit.wf, IntKind.min, IntKind.max, IntKind.signed, IntKind.bits] at b0 b2
  refine ⟨⟨z0, z1, z2⟩, rfl, ?_⟩
  simp only [good_Mk]
  omega
theorem read_Mk {H : Type} {enc : TypeId × Value → H} {w : World} {base : Nat} {sp : Nat → Bool} (n : Nat) (cs : List Value) (y : DataW H × List MemPlace) (_ : cs.length = kMk.size) (h : DataW.trod enc Tryz.prog w base sp true n kMk.e cs = some y) :
    ∃ x, cs = kMk.elem x ∧ good_Mk x := leaf_Mk cs (WithText.leaves_ok (P := Tryz.prog) 6 kMk.e [.int .u8, .string, .int .u8] _ _ _ (by kernel_rfl) h)
theorem leaf_St16 (cs0 : List Value) (e0 : WithText.LeavesOk [.int .u8, .string, .int .i64, .int .i64] cs0) : ∃ x, cs0 = kSt16.elem x ∧ good_St16 x := by
  obtain ⟨_, cs1, rfl, ⟨z0, rfl, b0⟩, e1⟩ := WithText.leaves_cons e0
  obtain ⟨_, cs2, rfl, ⟨z1, rfl, _⟩, e2⟩ := WithText.leaves_cons e1
  obtain ⟨_, cs3, rfl, ⟨z2, rfl, b2⟩, e3⟩ := WithText.leaves_cons e2
  obtain ⟨_, cs4, rfl, ⟨z3, rfl, b3⟩, e4⟩ := WithText.leaves_cons e3
  obtain rfl := WithText.leaves_nil e4
  simp [Lit.wf, IntKind.min, IntKind.max, IntKind.signed, IntKind.bits] at b0 b2 b3
  refine ⟨⟨z0, z1, z2, z3⟩, rfl, ?_⟩
  simp only [good_St16]
  omega
theorem read_St16 {H : Type} {enc : TypeId × Value → H} {w : World} {base : Nat} {sp : Nat → Bool} (n : Nat) (cs : List Value) (y : DataW H × List MemPlace) (_ : cs.length = kSt16.size) (h : DataW.trod enc Tryz.prog w base sp true n kSt16.e cs = some y) :
    ∃ x, cs = kSt16.elem x ∧ good_St16 x := leaf_St16 cs (WithText.leaves_ok (P := Tryz.prog) 6 kSt16.e [.int .u8, .string, .int .i64, .int .i64] _ _ _ (by kernel_rfl) h)
theorem leaf_Tn (cs0 : List Value) (e0 : LeavesOk [.int .u16, .int .u64] cs0) : ∃ x, cs0 = kTn.elem x ∧ good_Tn x := by
  obtain ⟨_, cs1, rfl, ⟨z0, rfl, b0⟩, e1⟩ := leaves_cons e0
  obtain ⟨_, cs2, rfl, ⟨z1, rfl, b1⟩, e2⟩ := leaves_cons e1
  obtain rfl := leaves_nil e2
  simp [Lit.wf, IntKind.min, IntKind.max, IntKind.signed, IntKind.bits] at b0 b1
  refine ⟨⟨z0, z1⟩, rfl, ?_⟩
  simp only [good_Tn]
  omega
theorem read_Tn {H : Type} {enc : TypeId × Value → H} {w : World} {base : Nat} {sp : Nat → Bool} (n : Nat) (cs : List Value) (y : DataW H × List MemPlace) (_ : cs.length = kTn.size) (h : DataW.trod enc Tryz.prog w base sp true n kTn.e cs = some y) :
    ∃ x, cs = kTn.elem x ∧ good_Tn x := leaf_Tn cs (leaves_ok (P := Tryz.prog) 6 kTn.e [.int .u16, .int .u64] _ _ _ (by kernel_rfl) h)
end Go.Proofs.YtmmclabkkigiaaaGreat
