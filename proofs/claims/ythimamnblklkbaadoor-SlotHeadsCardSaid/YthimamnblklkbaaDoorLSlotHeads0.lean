/- Texts, one behind the other: ALsHe, PLsHe. -/
import Derived.Test.YthimamnblklkbaaDoorQSN4
set_option linter.unusedVariables false
set_option linter.unusedSimpArgs false
set_option linter.unusedVariables false
set_option maxRecDepth 20000
set_option maxHeartbeats 4000000
namespace Go.Proofs.YthimamnblklkbaaDoor
open Go Go.RowKit
set_option linter.unusedSimpArgs false
set_option linter.unusedVariables false

def slotheads_J2 (i_ : Int) (ho_ : Bool) (hg_ : Int) (hk_ : Int) (f_ : Int) (r23 : List Int) (l61 : List (Int × Int)) (r65 : Bool × Int × Int × Int) : Option (Bool) :=
 if r65.2.2.2 = 0 then (if r65.1 = ho_ ∧ r65.2.1 = hg_ ∧ r65.2.2.1 = hk_ then (if (((vflat (r23.set ((sessAt (i_.tmod 4)).toNat) f_) l61).length) : Int) = (r23.length : Int) then (if (l61.length : Int) ≤ 3 then ((works10_M).bind fun r94 =>
some r94) else (some false)) else (some false)) else (some false)) else (some false)

def slotheads_B0 (i_ : Int) (ho_ : Bool) (hg_ : Int) (hk_ : Int) (f_ : Int) (r23 : List Int) (l61 : List (Int × Int)) (r65 : Bool × Int × Int × Int) (k106 : Int → Option (Bool)) (p105 : Int) : Option (Bool) :=
 if p105 < (r23.length : Int) then (if p105 < (((vflat (r23.set ((sessAt (i_.tmod 4)).toNat) f_) l61).length) : Int) then (if p105 < (sessAt (i_.tmod 4)) then (need (0 ≤ p105 ∧ p105 < (((vflat (r23.set ((sessAt (i_.tmod 4)).toNat) f_) l61).length) : Int)) <|
need (0 ≤ p105 ∧ p105 < (r23.length : Int)) <|
need (p105.toNat < (r23.set ((sessAt (i_.tmod 4)).toNat) f_).length) <|
if ((vflat (r23.set ((sessAt (i_.tmod 4)).toNat) f_) l61).getD p105.toNat 0) = ((r23.set ((sessAt (i_.tmod 4)).toNat) f_).getD p105.toNat 0) then (need (-9223372036854775808 ≤ (p105 + 1) ∧ (p105 + 1) ≤ 9223372036854775807) <|
k106 (p105 + 1)) else (some false)) else (need (-9223372036854775808 ≤ ((sessAt (i_.tmod 4)) + 3) ∧ ((sessAt (i_.tmod 4)) + 3) ≤ 9223372036854775807) <|
if p105 ≥ ((sessAt (i_.tmod 4)) + 3) then (need (0 ≤ p105 ∧ p105 < (((vflat (r23.set ((sessAt (i_.tmod 4)).toNat) f_) l61).length) : Int)) <|
need (0 ≤ p105 ∧ p105 < (r23.length : Int)) <|
need (p105.toNat < (r23.set ((sessAt (i_.tmod 4)).toNat) f_).length) <|
if ((vflat (r23.set ((sessAt (i_.tmod 4)).toNat) f_) l61).getD p105.toNat 0) = ((r23.set ((sessAt (i_.tmod 4)).toNat) f_).getD p105.toNat 0) then (need (-9223372036854775808 ≤ (p105 + 1) ∧ (p105 + 1) ≤ 9223372036854775807) <|
k106 (p105 + 1)) else (some false)) else (need (-9223372036854775808 ≤ (p105 + 1) ∧ (p105 + 1) ≤ 9223372036854775807) <|
k106 (p105 + 1)))) else (slotheads_J2 i_ ho_ hg_ hk_ f_ r23 l61 r65)) else (slotheads_J2 i_ ho_ hg_ hk_ f_ r23 l61 r65)

def slotheads_J1 (i_ : Int) (ho_ : Bool) (hg_ : Int) (hk_ : Int) (f_ : Int) (r23 : List Int) (l61 : List (Int × Int)) : Option (Bool) :=
 (sget_M (r23.set ((sessAt (i_.tmod 4)).toNat) f_) l61 (i_.tmod 4)).bind fun r65 =>
iter (fun k_ s_ => slotheads_B0 i_ ho_ hg_ hk_ f_ r23 l61 r65 k_ s_) FUEL 0

def slotheads_M (ts : List TTn) (i_ : Int) (ho_ : Bool) (hg_ : Int) (hk_ : Int) (f_ : Int) : Option (Bool) :=
 if (ts.length : Int) > 40 then ((works10_M).bind fun r9 =>
some r9) else (need ((0 : Int) ≤ 0 ∧ (0 : Int) ≤ 255) <|
need ((0 : Int) ≤ 0 ∧ (0 : Int) ≤ 255) <|
(image_M 1 (2 + 0 % 20) (2 + 0 % 60) ts 0).bind fun r23 =>
need (-9223372036854775808 ≤ i_ ∧ i_ ≤ 9223372036854775807) <|
need (0 ≤ (sessAt (i_.tmod 4)) ∧ (sessAt (i_.tmod 4)) < (r23.length : Int)) <|
need (r23.length = (r23.set ((sessAt (i_.tmod 4)).toNat) f_).length) <|
need ((r23.set ((sessAt (i_.tmod 4)).toNat) f_).length ≤ 17592186044415) <|
(sget_M (r23.set ((sessAt (i_.tmod 4)).toNat) f_) ([]) (i_.tmod 4)).bind fun r50 =>
if ((r50.2.2.2 = 0) ↔ (f_ ≤ 1)) then (if r50.2.2.2 = 0 then ((sput_M (r23.set ((sessAt (i_.tmod 4)).toNat) f_) ([]) (i_.tmod 4) ho_ hg_ hk_).bind fun r150 =>
if r150.1 = 0 then (slotheads_J1 i_ ho_ hg_ hk_ f_ r23 r150.2) else (some false)) else (if r50.2.2.2 = 4 then ((sput_M (r23.set ((sessAt (i_.tmod 4)).toNat) f_) ([]) (i_.tmod 4) ho_ hg_ hk_).bind fun r164 =>
if r164.1 = 0 then (slotheads_J1 i_ ho_ hg_ hk_ f_ r23 r164.2) else (some false)) else (some false))) else (some false))

theorem slotheads_walk {ts : List TTn} {i_ : Int} {ho_ : Bool} {hg_ : Int} {hk_ : Int} {f_ : Int} {ta : Option Addr} {tc : Nat}  (B : Nat) (w : World) (hB : w.heap.size = B) (hL : CellsAt (some ⟨1, 0, none⟩) [(.int .i64 1), (.int .i64 2), (.int .i64 2)] w) (ht : CellsAt ta (kTn.cells ts) w) (hm : slotheads_M ts i_ ho_ hg_ hk_ f_ = some true) : Spec Tryd.prog 11 #[(.slice ta ts.length tc), (.int .u8 i_), (.agg #[(.bool ho_), (.int .u64 hg_), (.int .u64 hk_)]), (.int .u64 f_)] B w [] (fun v H' => v = .bool true ∧ H' = []) := by
 refine spec_Q Tryd.func11 rfl fun hs => ?_
 unfold slotheads_M at hm
 have hG2 : 1 < B := by rw [← hB]; exact lt_of_cells hL (v := .int .i64 1) rfl
 refine W.sr fun K1 hK1 => ?_
 refine zN [(.bool ho_), (.int .u64 hg_), (.int .u64 hk_)] 48 hs fun b4 w2 hs3 => ?_
 refine zE 1 (hK1 _ _ ?_)
 refine W.seq fun K5 hK5 => ?_
 refine W.sr fun K6 hK6 => ?_
 refine zE 3 (hK6 _ _ ?_)
 refine W.cond (decide ((ts.length : Int) > 40)) (by kernel_rfl) (fun h7 => ?_) (fun h7 => ?_)
 ·
  obtain ⟨h7p, hm⟩ := iY hm h7
  refine W.sr fun K8 hK8 => ?_
  obtain ⟨r9, h10, hm⟩ := bind_some hm
  refine zC00 hs3 (works10_walk (hG2 := hG2) (hL := (hs3.oldCells hL)) (hm := h10) B _) fun w11 hs13 => ?_
  refine zE 1 (hK8 _ _ ?_)
  refine W.ret (ret_seq ?_)
  have hs14 := St.tk0 hs13
  refine ret_of (.bool r9) (by kernel_rfl) ⟨_, ⟨congrArg Value.bool (some_inj hm), rfl⟩, hs14⟩
 ·
  obtain ⟨h7p, hm⟩ := iN hm h7
  refine W.skip ?_
  refine hK5 _ _ ?_
  refine W.sr fun K15 hK15 => ?_
  obtain ⟨h16, hm⟩ := need_some hm
  obtain ⟨h17, hm⟩ := need_some hm
  refine zC00 hs3 (small_spec (x_ := 0) (y_ := 0) (hx := h16) (hy := h17) B _) fun w18 hs20 => ?_
  refine zR 1 ?_
  obtain ⟨r23, h24, hm⟩ := bind_some hm
  refine ops_call0 hs20 (by kernel_rfl) (image_walk (tc := tc) (ht := (hs20.oldCells ht)) (hm := h24) B _) ?_
  rintro _ _ w25 ⟨a21, c22, rfl, rfl⟩ hs26
  have hs27 := St.ap1 hs26
  refine zE 1 (hK15 _ _ ?_)
  refine W.sr fun K28 hK28 => ?_
  refine zR 1 ?_
  obtain ⟨h29, hm⟩ := need_some hm
  refine zI _ (wrap_i64 h29.1 h29.2) ?_
  refine zE 2 (hK28 _ _ ?_)
  refine W.sr fun K30 hK30 => ?_
  refine zR 1 ?_
  refine zC00 hs27 (rsess_spec (i_ := i_.tmod 4) B _) fun w31 hs33 => ?_
  refine zE 1 (hK30 _ _ ?_)
  refine W.sr fun K34 hK34 => ?_
  refine zR 3 ?_
  obtain ⟨h36, hm⟩ := need_some hm
  have hk35 := lt_toNat h36
  refine ops_R (runs_index (a := a21) (n := r23.length) (z := (sessAt (i_.tmod 4))) (size := 1) ((sessAt (i_.tmod 4)).toNat) (nat_of h36.1) hk35 (kU64.addr (St.kcells kU64 hs33 0 rfl) hk35) (by kernel_rfl)) ?_
  refine ops_storeK kU64 (j := 0) (vs := [(.int .u64 f_)]) 0 f_ hs33 hk35 (Nat.le_of_ble_eq_true rfl) (by simp) rfl rfl (by kernel_rfl) (fun w37 hs38 => ?_)
  refine zD (hK34 _ _ ?_)
  refine W.sr fun K40 hK40 => ?_
  refine zR 1 ?_
  obtain ⟨h41, hm⟩ := need_some hm
  refine ops_set 35 (v := (.slice a21 ((r23.set ((sessAt (i_.tmod 4)).toNat) f_).length) c22)) (Eq.trans (by kernel_rfl) (congrArg (fun n_ => Value.slice a21 n_ c22) h41)) ?_
  obtain ⟨h43, hm⟩ := need_some hm
  refine ops_call0 hs38 (by kernel_rfl) (new_spec (hc := (St.kcells kU64 hs38 0 rfl)) (hn := (St.capnil kU64 hs38 0 rfl)) (hsz := h43) B _) ?_
  rintro _ _ w44 ⟨b42, rfl, rfl⟩ hs45
  have hs46 := St.ap1 hs45
  refine zE 1 (hK40 _ _ ?_)
  refine W.seq fun K47 hK47 => ?_
  refine W.sr fun K48 hK48 => ?_
  refine zE 2 (hK48 _ _ ?_)
  refine W.cond_false false (by kernel_rfl) rfl ?_
  refine W.skip ?_
  refine hK47 _ _ ?_
  refine W.sr fun K49 hK49 => ?_
  refine zR 2 ?_
  obtain ⟨r50, h51, hm⟩ := bind_some hm
  refine zC00 hs46 (sget_walk (i_ := i_.tmod 4) (img := (r23.set ((sessAt (i_.tmod 4)).toNat) f_)) (l := []) (hL := (hs46.oldCells hL)) (hv := (hs46.entAt 0 rfl viewA_at)) (hm := h51) B _) fun w52 hs54 => ?_
  refine zR 3 ?_
  refine zN [(.bool false), (.int .u64 0), (.int .u64 0)] 48 hs54 fun b57 w55 hs56 => ?_
  refine ops_store (off := 0) (cs := [(.bool false), (.int .u64 0), (.int .u64 0)]) (vs := [(.bool r50.1), (.int .u64 r50.2.1), (.int .u64 r50.2.2.1)]) hs56 (by kernel_rfl) (by simp) rfl (fun w58 hs59 => ?_)
  have hs60 : St B w [] w58 [blk b57 (.cells [(.bool r50.1), (.int .u64 r50.2.1), (.int .u64 r50.2.2.1)].toArray 48 (0, 0)), viewA (ptr b42) (r23.set ((sessAt (i_.tmod 4)).toNat) f_) ([]), kU64.row a21 c22 (r23.set ((sessAt (i_.tmod 4)).toNat) f_), blk b4 (.cells [(.bool ho_), (.int .u64 hg_), (.int .u64 hk_)].toArray 48 (0, 0))] := hs59
  refine zE 1 (hK49 _ _ ?_)
  refine W.seq_join (fun s_ w_ => ∃ (l61 : List (Int × Int)), (∃ us, s_ = slots 128 [(6, (.pointer (some ⟨b4, 0, none⟩))), (9, (.slice a21 r23.length c22)), (10, (.int .i64 (i_.tmod 4))), (11, (.int .i64 (sessAt (i_.tmod 4)))), (12, (.pointer (some ⟨b42, 0, none⟩)))] us) ∧ St B w [] w_ [blk b4 (.cells [(.bool ho_), (.int .u64 hg_), (.int .u64 hk_)].toArray 48 (0, 0)), kU64.row a21 c22 (r23.set ((sessAt (i_.tmod 4)).toNat) f_), viewA (ptr b42) (r23.set ((sessAt (i_.tmod 4)).toNat) f_) l61, blk b57 (.cells [(.bool r50.1), (.int .u64 r50.2.1), (.int .u64 r50.2.2.1)].toArray 48 (0, 0))] ∧ slotheads_J1 i_ ho_ hg_ hk_ f_ r23 l61 = some true) ?_ ?_
  ·
   rintro _ w62 ⟨l61, ⟨us, rfl⟩, hs63, hm⟩
   unfold slotheads_J1 at hm
   refine W.sr fun K64 hK64 => ?_
   refine zR 2 ?_
   obtain ⟨r65, h66, hm⟩ := bind_some hm
   refine zC00 hs63 (sget_walk (i_ := i_.tmod 4) (img := (r23.set ((sessAt (i_.tmod 4)).toNat) f_)) (l := l61) (hL := (hs63.oldCells hL)) (hv := (hs63.entAt 2 rfl viewA_at)) (hm := h66) B _) fun w67 hs69 => ?_
   refine zR 3 ?_
   refine zN [(.bool false), (.int .u64 0), (.int .u64 0)] 48 hs69 fun b72 w70 hs71 => ?_
   refine ops_store (off := 0) (cs := [(.bool false), (.int .u64 0), (.int .u64 0)]) (vs := [(.bool r65.1), (.int .u64 r65.2.1), (.int .u64 r65.2.2.1)]) hs71 (by kernel_rfl) (by simp) rfl (fun w73 hs74 => ?_)
   have hs75 : St B w [] w73 [blk b72 (.cells [(.bool r65.1), (.int .u64 r65.2.1), (.int .u64 r65.2.2.1)].toArray 48 (0, 0)), blk b4 (.cells [(.bool ho_), (.int .u64 hg_), (.int .u64 hk_)].toArray 48 (0, 0)), kU64.row a21 c22 (r23.set ((sessAt (i_.tmod 4)).toNat) f_), viewA (ptr b42) (r23.set ((sessAt (i_.tmod 4)).toNat) f_) l61, blk b57 (.cells [(.bool r50.1), (.int .u64 r50.2.1), (.int .u64 r50.2.2.1)].toArray 48 (0, 0))] := hs74
   refine zE 1 (hK64 _ _ ?_)
   refine W.sr fun K76 hK76 => ?_
   refine zR 1 ?_
   refine ops_call0 hs75 (by kernel_rfl) (flat_spec (hv := (hs75.entAt 3 rfl viewA_at)) B _) ?_
   rintro _ _ w79 ⟨a77, c78, rfl, rfl⟩ hs80
   have hs81 := St.ap1 hs80
   refine zE 1 (hK76 _ _ ?_)
   refine W.seq_join (fun s_ w_ => (∃ us, s_ = slots 128 [(6, (.pointer (some ⟨b4, 0, none⟩))), (9, (.slice a21 r23.length c22)), (12, (.pointer (some ⟨b42, 0, none⟩))), (15, (.pointer (some ⟨b72, 0, none⟩))), (16, (.int .i64 r65.2.2.2)), (17, (.slice a77 ((vflat (r23.set ((sessAt (i_.tmod 4)).toNat) f_) l61).length) c78))] us) ∧ St B w [] w_ [blk b4 (.cells [(.bool ho_), (.int .u64 hg_), (.int .u64 hk_)].toArray 48 (0, 0)), kU64.row a21 c22 (r23.set ((sessAt (i_.tmod 4)).toNat) f_), viewA (ptr b42) (r23.set ((sessAt (i_.tmod 4)).toNat) f_) l61, blk b72 (.cells [(.bool r65.1), (.int .u64 r65.2.1), (.int .u64 r65.2.2.1)].toArray 48 (0, 0)), kU64.row a77 c78 (vflat (r23.set ((sessAt (i_.tmod 4)).toNat) f_) l61), blk b57 (.cells [(.bool r50.1), (.int .u64 r50.2.1), (.int .u64 r50.2.2.1)].toArray 48 (0, 0))] ∧ slotheads_J2 i_ ho_ hg_ hk_ f_ r23 l61 r65 = some true) ?_ ?_
   ·
    rintro _ w82 ⟨⟨us, rfl⟩, hs83, hm⟩
    unfold slotheads_J2 at hm
    refine W.sr fun K84 hK84 => ?_
    refine zR 3 ?_
    rcases Bool.eq_false_or_eq_true (decide (r65.2.2.2 = 0)) with h85 | h85
    ·
     obtain ⟨h85p, hm⟩ := iY hm h85
     refine zS 107 h85 ?_
     refine zS 106 h85 ?_
     refine ops_R (runs_loadAgg (ad := ⟨b72, 0, none⟩) (cs := [(.bool r65.1), (.int .u64 r65.2.1), (.int .u64 r65.2.2.1)]) (by kernel_rfl) (cells_sub (hs83.heapAt 3 rfl) rfl)) ?_
     refine ops_R (runs_loadAgg (ad := ⟨b4, 0, none⟩) (cs := [(.bool ho_), (.int .u64 hg_), (.int .u64 hk_)]) (by kernel_rfl) (cells_sub (hs83.heapAt 0 rfl) rfl)) ?_
     refine ops_R (v := (.bool ((r65.1 == ho_) && ((decide (r65.2.1 = hg_)) && ((decide (r65.2.2.1 = hk_)) && true))))) (runs_eq (b := ((r65.1 == ho_) && ((decide (r65.2.1 = hg_)) && ((decide (r65.2.2.1 = hk_)) && true)))) (by kernel_rfl)) ?_
     refine zR 2 ?_
     rcases Bool.eq_false_or_eq_true ((r65.1 == ho_) && ((decide (r65.2.1 = hg_)) && ((decide (r65.2.2.1 = hk_)) && true))) with h86 | h86
     ·
      have h86p : r65.1 = ho_ ∧ r65.2.1 = hg_ ∧ r65.2.2.1 = hk_ := by simpa using h86
      replace hm := ite_yes hm h86p
      refine zS 112 h86 ?_
      refine zS 110 h86 ?_
      refine zS 111 h86 ?_
      refine zR 7 ?_
      rcases Bool.eq_false_or_eq_true (decide ((((vflat (r23.set ((sessAt (i_.tmod 4)).toNat) f_) l61).length) : Int) = (r23.length : Int))) with h87 | h87
      ·
       obtain ⟨h87p, hm⟩ := iY hm h87
       refine zS 119 h87 ?_
       refine zS 117 h87 ?_
       refine zS 118 h87 ?_
       refine zR 1 ?_
       refine ops_call0 hs83 (by kernel_rfl) (writes_spec (hv := (hs83.entAt 2 rfl viewA_at)) B _) ?_
       rintro _ _ w90 ⟨a88, c89, rfl, rfl⟩ hs91
       have hs92 := St.ap1 hs91
       refine zR 4 ?_
       rcases Bool.eq_false_or_eq_true (decide ((l61.length : Int) ≤ 3)) with h93 | h93
       ·
        obtain ⟨h93p, hm⟩ := iY hm h93
        refine zS 125 h93 ?_
        refine zS 123 h93 ?_
        refine zS 124 h93 ?_
        obtain ⟨r94, h95, hm⟩ := bind_some hm
        refine zC00 hs92 (works10_walk (hG2 := hG2) (hL := (hs92.oldCells hL)) (hm := h95) B _) fun w96 hs98 => ?_
        refine zE 2 (hK84 _ _ ?_)
        refine W.ret ?_
        have hs99 := St.tk0 hs98
        refine ret_of (.bool r94) (by kernel_rfl) ⟨_, ⟨congrArg Value.bool (some_inj hm), rfl⟩, hs99⟩
       ·
        obtain ⟨h93p, hm⟩ := iN hm h93
        refine zS 125 h93 ?_
        refine zS 123 h93 ?_
        refine zS 124 h93 ?_
        refine zE 3 (hK84 _ _ ?_)
        refine W.ret ?_
        have hs100 := St.tk0 hs92
        refine ret_of (.bool false) (by kernel_rfl) ⟨_, ⟨congrArg Value.bool (some_inj hm), rfl⟩, hs100⟩
      ·
       obtain ⟨h87p, hm⟩ := iN hm h87
       refine zS 119 h87 ?_
       refine zS 117 h87 ?_
       refine zS 118 h87 ?_
       refine zE 9 (hK84 _ _ ?_)
       refine W.ret ?_
       have hs101 := St.tk0 hs83
       refine ret_of (.bool false) (by kernel_rfl) ⟨_, ⟨congrArg Value.bool (some_inj hm), rfl⟩, hs101⟩
     ·
      have h86p : ¬ (r65.1 = ho_ ∧ r65.2.1 = hg_ ∧ r65.2.2.1 = hk_) := by simpa using h86
      replace hm := ite_no hm h86p
      refine zS 112 h86 ?_
      refine zS 110 h86 ?_
      refine zS 111 h86 ?_
      refine zE 16 (hK84 _ _ ?_)
      refine W.ret ?_
      have hs102 := St.tk0 hs83
      refine ret_of (.bool false) (by kernel_rfl) ⟨_, ⟨congrArg Value.bool (some_inj hm), rfl⟩, hs102⟩
    ·
     obtain ⟨h85p, hm⟩ := iN hm h85
     refine zS 107 h85 ?_
     refine zS 106 h85 ?_
     refine zE 21 (hK84 _ _ ?_)
     refine W.ret ?_
     have hs103 := St.tk0 hs83
     refine ret_of (.bool false) (by kernel_rfl) ⟨_, ⟨congrArg Value.bool (some_inj hm), rfl⟩, hs103⟩
   ·
    refine W.sr fun K104 hK104 => ?_
    refine zE 1 (hK104 _ _ ?_)
    refine W.block ?_
    have hs110 := St.f5 hs81
    have hs111 := St.f1 hs110
    have hs112 := St.f2 hs111
    have hs113 := St.f5 hs112
    have hs114 := St.f5 hs113
    have hs115 := St.f5 hs114
    refine W.loop_iter (G := Int) (σ := Int) (fun | p105 => p105) (fun | p105, s_, w_ => (∃ us, s_ = slots 128 [(6, (.pointer (some ⟨b4, 0, none⟩))), (9, (.slice a21 r23.length c22)), (11, (.int .i64 (sessAt (i_.tmod 4)))), (12, (.pointer (some ⟨b42, 0, none⟩))), (15, (.pointer (some ⟨b72, 0, none⟩))), (16, (.int .i64 r65.2.2.2)), (17, (.slice a77 ((vflat (r23.set ((sessAt (i_.tmod 4)).toNat) f_) l61).length) c78)), (18, (.int .i64 p105))] us) ∧ St B w [] w_ [blk b4 (.cells [(.bool ho_), (.int .u64 hg_), (.int .u64 hk_)].toArray 48 (0, 0)), kU64.row a21 c22 (r23.set ((sessAt (i_.tmod 4)).toNat) f_), viewA (ptr b42) (r23.set ((sessAt (i_.tmod 4)).toNat) f_) l61, blk b72 (.cells [(.bool r65.1), (.int .u64 r65.2.1), (.int .u64 r65.2.2.1)].toArray 48 (0, 0)), kU64.row a77 c78 (vflat (r23.set ((sessAt (i_.tmod 4)).toNat) f_) l61), blk b57 (.cells [(.bool r50.1), (.int .u64 r50.2.1), (.int .u64 r50.2.2.1)].toArray 48 (0, 0))]) 0 ⟨slots_intro _ (by kernel_rfl), hs115⟩ hm ?_
    rintro k106 ih107 p105 _ w108 ⟨⟨us, rfl⟩, hs109⟩ hm
    replace hm : slotheads_B0 i_ ho_ hg_ hk_ f_ r23 l61 r65 k106 p105 = some true := hm
    unfold slotheads_B0 at hm
    refine W.seq fun K116 hK116 => ?_
    refine W.sr fun K117 hK117 => ?_
    refine zR 5 ?_
    rcases Bool.eq_false_or_eq_true (decide (p105 < (r23.length : Int))) with h118 | h118
    ·
     obtain ⟨h118p, hm⟩ := iY hm h118
     refine zS 77 h118 ?_
     refine zS 76 h118 ?_
     refine zE 5 (hK117 _ _ ?_)
     refine W.cond (decide (p105 < (((vflat (r23.set ((sessAt (i_.tmod 4)).toNat) f_) l61).length) : Int))) (by kernel_rfl) (fun h119 => ?_) (fun h119 => ?_)
     ·
      obtain ⟨h119p, hm⟩ := iY hm h119
      refine W.skip ?_
      refine hK116 _ _ ?_
      refine W.seq fun K120 hK120 => ?_
      refine W.block ?_
      refine W.seq fun K121 hK121 => ?_
      have hs122 := hs109.drew
      refine W.regionD [(0, 0), (0, 0), (3, 3), (4, 4), (8, 8), (8, 8), (40, 40), (88, 88), (136, 136), (264, 256), (512, 512), (512, 512), (3584, 3584), (4608, 4608), (512, 512), (512, 512), (49664, 49664), (66048, 66048), (139776, 139776), (262656, 262656)] (fun w_ => St B w [] w_ [blk b4 (.cells [(.bool ho_), (.int .u64 hg_), (.int .u64 hk_)].toArray 48 (0, 0)), kU64.row a21 c22 (r23.set ((sessAt (i_.tmod 4)).toNat) f_), viewA (ptr b42) (r23.set ((sessAt (i_.tmod 4)).toNat) f_) l61, blk b72 (.cells [(.bool r65.1), (.int .u64 r65.2.1), (.int .u64 r65.2.2.1)].toArray 48 (0, 0)), kU64.row a77 c78 (vflat (r23.set ((sessAt (i_.tmod 4)).toNat) f_) l61), blk b57 (.cells [(.bool r50.1), (.int .u64 r50.2.1), (.int .u64 r50.2.2.1)].toArray 48 (0, 0))]) (by kernel_rfl) hs122 ?_
      refine any_val (v := (.int .i64 p105)) (v' := (.int .i64 p105)) 0 (by kernel_rfl) (fun _ => by kernel_rfl) rfl hs122 ?_
      refine any_val (v := (.int .i64 (sessAt (i_.tmod 4)))) (v' := (.int .i64 (sessAt (i_.tmod 4)))) 1 (by kernel_rfl) (fun _ => by kernel_rfl) rfl hs122 ?_
      refine any_val (v := (.bool (decide (p105 < (sessAt (i_.tmod 4)))))) (v' := (.bool (decide (p105 < (sessAt (i_.tmod 4)))))) 2 (by kernel_rfl) (fun _ => by kernel_rfl) rfl hs122 ?_
      refine any_val (v := (.bool (decide (p105 < (sessAt (i_.tmod 4)))))) (v' := (.bool (decide (p105 < (sessAt (i_.tmod 4)))))) 3 (by kernel_rfl) (fun _ => by kernel_rfl) rfl hs122 ?_
      rcases Bool.eq_false_or_eq_true (decide (p105 < (sessAt (i_.tmod 4)))) with h123 | h123
      ·
       obtain ⟨h123p, hm⟩ := iY hm h123
       refine any_set 87 (v := .bool true) (eq_bool_of (by kernel_rfl) h123) ?_
       refine any_set 88 (v := .bool true) (eq_bool_of (by kernel_rfl) h123) ?_
       refine any_skip 4 (by kernel_rfl) (by kernel_rfl) hs122 ?_
       refine any_skip 5 (by kernel_rfl) (by kernel_rfl) hs122 ?_
       refine any_skip 6 (by kernel_rfl) (by kernel_rfl) hs122 ?_
       refine any_skip 7 (by kernel_rfl) (by kernel_rfl) hs122 ?_
       refine any_val (v := (.bool true)) (v' := (.bool true)) 8 (by kernel_rfl) (fun _ => by kernel_rfl) rfl hs122 ?_
       refine any_val (v := (.bool true)) (v' := (.bool true)) 9 (by kernel_rfl) (fun _ => by kernel_rfl) rfl hs122 ?_
       refine any_val (v := (.slice a77 ((vflat (r23.set ((sessAt (i_.tmod 4)).toNat) f_) l61).length) c78)) (v' := (.slice a77 ((vflat (r23.set ((sessAt (i_.tmod 4)).toNat) f_) l61).length) c78)) 10 (by kernel_rfl) (fun _ => by kernel_rfl) rfl hs122 ?_
       refine any_val (v := (.int .i64 p105)) (v' := (.int .i64 p105)) 11 (by kernel_rfl) (fun _ => by kernel_rfl) rfl hs122 ?_
       obtain ⟨h125, hm⟩ := need_some hm
       have hk124 := lt_toNat h125
       refine any_R 12 (by kernel_rfl) (fun _ hS_ => runs_index (a := a77) (n := (vflat (r23.set ((sessAt (i_.tmod 4)).toNat) f_) l61).length) (z := p105) (size := 1) p105.toNat (nat_of h125.1) hk124 (kU64.addr (St.kcells kU64 hs122 4 rfl) hk124) (by kernel_rfl)) hs122 ?_
       refine any_R 13 (by kernel_rfl) (fun _ hS_ => runs_load (ad := ((adr a77 (p105.toNat * 1)).add 0)) (v := (.int .u64 ((vflat (r23.set ((sessAt (i_.tmod 4)).toNat) f_) l61).getD p105.toNat 0))) (by kernel_rfl) (kU64.at (St.kcells kU64 hS_ 4 rfl) hk124 0 0 rfl)) hs122 ?_
       refine any_val (v := (.slice a21 r23.length c22)) (v' := (.slice a21 r23.length c22)) 14 (by kernel_rfl) (fun _ => by kernel_rfl) rfl hs122 ?_
       refine any_val (v := (.int .i64 p105)) (v' := (.int .i64 p105)) 15 (by kernel_rfl) (fun _ => by kernel_rfl) rfl hs122 ?_
       obtain ⟨h127, hm⟩ := need_some hm
       have hk126 := lt_toNat h127
       obtain ⟨h129, hm⟩ := need_some hm
       have hk128 := h129
       refine any_R 16 (by kernel_rfl) (fun _ hS_ => runs_index (a := a21) (n := r23.length) (z := p105) (size := 1) p105.toNat (nat_of h127.1) hk126 (kU64.addr (St.kcells kU64 hs122 1 rfl) hk128) (by kernel_rfl)) hs122 ?_
       refine any_R 17 (by kernel_rfl) (fun _ hS_ => runs_load (ad := ((adr a21 (p105.toNat * 1)).add 0)) (v := (.int .u64 ((r23.set ((sessAt (i_.tmod 4)).toNat) f_).getD p105.toNat 0))) (by kernel_rfl) (kU64.at (St.kcells kU64 hS_ 1 rfl) hk128 0 0 rfl)) hs122 ?_
       refine any_val (v := (.bool (!decide (((vflat (r23.set ((sessAt (i_.tmod 4)).toNat) f_) l61).getD p105.toNat 0) = ((r23.set ((sessAt (i_.tmod 4)).toNat) f_).getD p105.toNat 0))))) (v' := (.bool (!decide (((vflat (r23.set ((sessAt (i_.tmod 4)).toNat) f_) l61).getD p105.toNat 0) = ((r23.set ((sessAt (i_.tmod 4)).toNat) f_).getD p105.toNat 0))))) 18 (by kernel_rfl) (fun _ => by kernel_rfl) rfl hs122 ?_
       refine any_val (v := (.bool (!decide (((vflat (r23.set ((sessAt (i_.tmod 4)).toNat) f_) l61).getD p105.toNat 0) = ((r23.set ((sessAt (i_.tmod 4)).toNat) f_).getD p105.toNat 0))))) (v' := (.bool (!decide (((vflat (r23.set ((sessAt (i_.tmod 4)).toNat) f_) l61).getD p105.toNat 0) = ((r23.set ((sessAt (i_.tmod 4)).toNat) f_).getD p105.toNat 0))))) 19 (by kernel_rfl) (fun _ => by kernel_rfl) rfl hs122 ?_
       refine any_done (by kernel_rfl) ?_
       refine hK121 _ _ ?_
       refine W.cond (!decide (((vflat (r23.set ((sessAt (i_.tmod 4)).toNat) f_) l61).getD p105.toNat 0) = ((r23.set ((sessAt (i_.tmod 4)).toNat) f_).getD p105.toNat 0))) (by kernel_rfl) (fun h130 => ?_) (fun h130 => ?_)
       rotate_left
       ·
        have h130p : ((vflat (r23.set ((sessAt (i_.tmod 4)).toNat) f_) l61).getD p105.toNat 0) = ((r23.set ((sessAt (i_.tmod 4)).toNat) f_).getD p105.toNat 0) := of_decide_eq_true (bnot_false h130)
        replace hm := ite_yes hm h130p
        refine W.skip ?_
        refine normal_block ?_
        refine hK120 _ _ ?_
        refine W.region ?_
        refine zR 1 ?_
        obtain ⟨h131, hm⟩ := need_some hm
        refine zI _ (wrap_i64 h131.1 h131.2) ?_
        refine zE 1 ?_
        refine loopAt_next ?_
        exact ih107 (p105 + 1) _ _ ⟨slots_intro _ (by kernel_rfl), hs122⟩ hm
       ·
        have h130p : ¬ (((vflat (r23.set ((sessAt (i_.tmod 4)).toNat) f_) l61).getD p105.toNat 0) = ((r23.set ((sessAt (i_.tmod 4)).toNat) f_).getD p105.toNat 0)) := of_decide_eq_false (bnot_true h130)
        replace hm := ite_no hm h130p
        refine W.sr fun K132 hK132 => ?_
        refine zE 1 (hK132 _ _ ?_)
        refine W.ret (ret_block (ret_seq (ret_seq (ret_block (ret_seq ?_)))))
        have hs133 := St.tk0 hs122
        refine ret_of (.bool false) (by kernel_rfl) ⟨_, ⟨congrArg Value.bool (some_inj hm), rfl⟩, hs133⟩
      ·
       obtain ⟨h123p, hm⟩ := iN hm h123
       refine any_set 87 (v := .bool false) (eq_bool_of (by kernel_rfl) h123) ?_
       refine any_set 88 (v := .bool false) (eq_bool_of (by kernel_rfl) h123) ?_
       refine any_val (v := (.int .i64 p105)) (v' := (.int .i64 p105)) 4 (by kernel_rfl) (fun _ => by kernel_rfl) rfl hs122 ?_
       refine any_val (v := (.int .i64 (sessAt (i_.tmod 4)))) (v' := (.int .i64 (sessAt (i_.tmod 4)))) 5 (by kernel_rfl) (fun _ => by kernel_rfl) rfl hs122 ?_
       obtain ⟨h134, hm⟩ := need_some hm
       refine any_val (v := .int .i64 (IntKind.i64.wrap ((sessAt (i_.tmod 4)) + 3))) (v' := .int .i64 ((sessAt (i_.tmod 4)) + 3)) 6 (by kernel_rfl) (fun _ => by kernel_rfl) (congrArg (Value.int .i64) (wrap_i64 h134.1 h134.2)) hs122 ?_
       refine any_val (v := (.bool (decide (p105 ≥ ((sessAt (i_.tmod 4)) + 3))))) (v' := (.bool (decide (p105 ≥ ((sessAt (i_.tmod 4)) + 3))))) 7 (by kernel_rfl) (fun _ => by kernel_rfl) rfl hs122 ?_
       refine any_val (v := (.bool (decide (p105 ≥ ((sessAt (i_.tmod 4)) + 3))))) (v' := (.bool (decide (p105 ≥ ((sessAt (i_.tmod 4)) + 3))))) 8 (by kernel_rfl) (fun _ => by kernel_rfl) rfl hs122 ?_
       refine any_val (v := (.bool (decide (p105 ≥ ((sessAt (i_.tmod 4)) + 3))))) (v' := (.bool (decide (p105 ≥ ((sessAt (i_.tmod 4)) + 3))))) 9 (by kernel_rfl) (fun _ => by kernel_rfl) rfl hs122 ?_
       rcases Bool.eq_false_or_eq_true (decide (p105 ≥ ((sessAt (i_.tmod 4)) + 3))) with h135 | h135
       ·
        obtain ⟨h135p, hm⟩ := iY hm h135
        refine any_set 92 (v := .bool true) (eq_bool_of (by kernel_rfl) h135) ?_
        refine any_set 93 (v := .bool true) (eq_bool_of (by kernel_rfl) h135) ?_
        refine any_set 94 (v := .bool true) (eq_bool_of (by kernel_rfl) h135) ?_
        refine any_val (v := (.slice a77 ((vflat (r23.set ((sessAt (i_.tmod 4)).toNat) f_) l61).length) c78)) (v' := (.slice a77 ((vflat (r23.set ((sessAt (i_.tmod 4)).toNat) f_) l61).length) c78)) 10 (by kernel_rfl) (fun _ => by kernel_rfl) rfl hs122 ?_
        refine any_val (v := (.int .i64 p105)) (v' := (.int .i64 p105)) 11 (by kernel_rfl) (fun _ => by kernel_rfl) rfl hs122 ?_
        obtain ⟨h137, hm⟩ := need_some hm
        have hk136 := lt_toNat h137
        refine any_R 12 (by kernel_rfl) (fun _ hS_ => runs_index (a := a77) (n := (vflat (r23.set ((sessAt (i_.tmod 4)).toNat) f_) l61).length) (z := p105) (size := 1) p105.toNat (nat_of h137.1) hk136 (kU64.addr (St.kcells kU64 hs122 4 rfl) hk136) (by kernel_rfl)) hs122 ?_
        refine any_R 13 (by kernel_rfl) (fun _ hS_ => runs_load (ad := ((adr a77 (p105.toNat * 1)).add 0)) (v := (.int .u64 ((vflat (r23.set ((sessAt (i_.tmod 4)).toNat) f_) l61).getD p105.toNat 0))) (by kernel_rfl) (kU64.at (St.kcells kU64 hS_ 4 rfl) hk136 0 0 rfl)) hs122 ?_
        refine any_val (v := (.slice a21 r23.length c22)) (v' := (.slice a21 r23.length c22)) 14 (by kernel_rfl) (fun _ => by kernel_rfl) rfl hs122 ?_
        refine any_val (v := (.int .i64 p105)) (v' := (.int .i64 p105)) 15 (by kernel_rfl) (fun _ => by kernel_rfl) rfl hs122 ?_
        obtain ⟨h139, hm⟩ := need_some hm
        have hk138 := lt_toNat h139
        obtain ⟨h141, hm⟩ := need_some hm
        have hk140 := h141
        refine any_R 16 (by kernel_rfl) (fun _ hS_ => runs_index (a := a21) (n := r23.length) (z := p105) (size := 1) p105.toNat (nat_of h139.1) hk138 (kU64.addr (St.kcells kU64 hs122 1 rfl) hk140) (by kernel_rfl)) hs122 ?_
        refine any_R 17 (by kernel_rfl) (fun _ hS_ => runs_load (ad := ((adr a21 (p105.toNat * 1)).add 0)) (v := (.int .u64 ((r23.set ((sessAt (i_.tmod 4)).toNat) f_).getD p105.toNat 0))) (by kernel_rfl) (kU64.at (St.kcells kU64 hS_ 1 rfl) hk140 0 0 rfl)) hs122 ?_
        refine any_val (v := (.bool (!decide (((vflat (r23.set ((sessAt (i_.tmod 4)).toNat) f_) l61).getD p105.toNat 0) = ((r23.set ((sessAt (i_.tmod 4)).toNat) f_).getD p105.toNat 0))))) (v' := (.bool (!decide (((vflat (r23.set ((sessAt (i_.tmod 4)).toNat) f_) l61).getD p105.toNat 0) = ((r23.set ((sessAt (i_.tmod 4)).toNat) f_).getD p105.toNat 0))))) 18 (by kernel_rfl) (fun _ => by kernel_rfl) rfl hs122 ?_
        refine any_val (v := (.bool (!decide (((vflat (r23.set ((sessAt (i_.tmod 4)).toNat) f_) l61).getD p105.toNat 0) = ((r23.set ((sessAt (i_.tmod 4)).toNat) f_).getD p105.toNat 0))))) (v' := (.bool (!decide (((vflat (r23.set ((sessAt (i_.tmod 4)).toNat) f_) l61).getD p105.toNat 0) = ((r23.set ((sessAt (i_.tmod 4)).toNat) f_).getD p105.toNat 0))))) 19 (by kernel_rfl) (fun _ => by kernel_rfl) rfl hs122 ?_
        refine any_done (by kernel_rfl) ?_
        refine hK121 _ _ ?_
        refine W.cond (!decide (((vflat (r23.set ((sessAt (i_.tmod 4)).toNat) f_) l61).getD p105.toNat 0) = ((r23.set ((sessAt (i_.tmod 4)).toNat) f_).getD p105.toNat 0))) (by kernel_rfl) (fun h142 => ?_) (fun h142 => ?_)
        rotate_left
        ·
         have h142p : ((vflat (r23.set ((sessAt (i_.tmod 4)).toNat) f_) l61).getD p105.toNat 0) = ((r23.set ((sessAt (i_.tmod 4)).toNat) f_).getD p105.toNat 0) := of_decide_eq_true (bnot_false h142)
         replace hm := ite_yes hm h142p
         refine W.skip ?_
         refine normal_block ?_
         refine hK120 _ _ ?_
         refine W.region ?_
         refine zR 1 ?_
         obtain ⟨h143, hm⟩ := need_some hm
         refine zI _ (wrap_i64 h143.1 h143.2) ?_
         refine zE 1 ?_
         refine loopAt_next ?_
         exact ih107 (p105 + 1) _ _ ⟨slots_intro _ (by kernel_rfl), hs122⟩ hm
        ·
         have h142p : ¬ (((vflat (r23.set ((sessAt (i_.tmod 4)).toNat) f_) l61).getD p105.toNat 0) = ((r23.set ((sessAt (i_.tmod 4)).toNat) f_).getD p105.toNat 0)) := of_decide_eq_false (bnot_true h142)
         replace hm := ite_no hm h142p
         refine W.sr fun K144 hK144 => ?_
         refine zE 1 (hK144 _ _ ?_)
         refine W.ret (ret_block (ret_seq (ret_seq (ret_block (ret_seq ?_)))))
         have hs145 := St.tk0 hs122
         refine ret_of (.bool false) (by kernel_rfl) ⟨_, ⟨congrArg Value.bool (some_inj hm), rfl⟩, hs145⟩
       ·
        obtain ⟨h135p, hm⟩ := iN hm h135
        refine any_set 92 (v := .bool false) (eq_bool_of (by kernel_rfl) h135) ?_
        refine any_set 93 (v := .bool false) (eq_bool_of (by kernel_rfl) h135) ?_
        refine any_set 94 (v := .bool false) (eq_bool_of (by kernel_rfl) h135) ?_
        refine any_skip 10 (by kernel_rfl) (by kernel_rfl) hs122 ?_
        refine any_skip 11 (by kernel_rfl) (by kernel_rfl) hs122 ?_
        refine any_skip 12 (by kernel_rfl) (by kernel_rfl) hs122 ?_
        refine any_skip 13 (by kernel_rfl) (by kernel_rfl) hs122 ?_
        refine any_skip 14 (by kernel_rfl) (by kernel_rfl) hs122 ?_
        refine any_skip 15 (by kernel_rfl) (by kernel_rfl) hs122 ?_
        refine any_skip 16 (by kernel_rfl) (by kernel_rfl) hs122 ?_
        refine any_skip 17 (by kernel_rfl) (by kernel_rfl) hs122 ?_
        refine any_skip 18 (by kernel_rfl) (by kernel_rfl) hs122 ?_
        refine any_val (v := (.bool false)) (v' := (.bool false)) 19 (by kernel_rfl) (fun _ => by kernel_rfl) rfl hs122 ?_
        refine any_done (by kernel_rfl) ?_
        refine hK121 _ _ ?_
        refine W.cond_false false (by kernel_rfl) rfl ?_
        refine W.skip ?_
        refine normal_block ?_
        refine hK120 _ _ ?_
        refine W.region ?_
        refine zR 1 ?_
        obtain ⟨h146, hm⟩ := need_some hm
        refine zI _ (wrap_i64 h146.1 h146.2) ?_
        refine zE 1 ?_
        refine loopAt_next ?_
        exact ih107 (p105 + 1) _ _ ⟨slots_intro _ (by kernel_rfl), hs122⟩ hm
     ·
      obtain ⟨h119p, hm⟩ := iN hm h119
      refine W.exit (exit_seq (exit_seq (exit_here ?_)))
      exact ⟨slots_intro _ (by kernel_rfl), hs109, hm⟩
    ·
     obtain ⟨h118p, hm⟩ := iN hm h118
     refine zS 77 h118 ?_
     refine zS 76 h118 ?_
     refine zE 5 (hK117 _ _ ?_)
     refine W.cond_false false (by kernel_rfl) rfl ?_
     refine W.exit (exit_seq (exit_seq (exit_here ?_)))
     exact ⟨slots_intro _ (by kernel_rfl), hs109, hm⟩
  ·
   refine W.sr fun K147 hK147 => ?_
   refine zR 6 ?_
   rcases Bool.eq_false_or_eq_true (!((decide (r50.2.2.2 = 0)) == (decide (f_ ≤ 1)))) with h148 | h148
   rotate_left
   ·
    have h148p : ((r50.2.2.2 = 0) ↔ (f_ ≤ 1)) := beq_yes decide_eq_true_iff decide_eq_true_iff (bnot_false h148)
    replace hm := ite_yes hm h148p
    refine zS 50 h148 ?_
    refine zS 49 h148 ?_
    refine zR 3 ?_
    rcases Bool.eq_false_or_eq_true (!decide (r50.2.2.2 = 0)) with h149 | h149
    rotate_left
    ·
     have h149p : r50.2.2.2 = 0 := of_decide_eq_true (bnot_false h149)
     replace hm := ite_yes hm h149p
     refine zS 53 h149 ?_
     refine zS 52 h149 ?_
     refine zR 7 ?_
     refine ops_R (runs_loadAgg (ad := ⟨b4, 0, none⟩) (cs := [(.bool ho_), (.int .u64 hg_), (.int .u64 hk_)]) (by kernel_rfl) (cells_sub (hs60.heapAt 3 rfl) rfl)) ?_
     obtain ⟨r150, h151, hm⟩ := bind_some hm
     have hs152 := St.f1 hs60
     refine zC11 hs152 (sput_walk (vb := b42) (i_ := i_.tmod 4) (ho_ := ho_) (hg_ := hg_) (hk_ := hk_) (img := (r23.set ((sessAt (i_.tmod 4)).toNat) f_)) (l := []) (hG2 := hG2) (hL := (hs60.oldCells hL)) (hm := h151) B _) fun w153 hs155 => ?_
     refine zE 2 (hK147 _ _ ?_)
     refine W.cond (!decide (r150.1 = 0)) (by kernel_rfl) (fun h156 => ?_) (fun h156 => ?_)
     rotate_left
     ·
      have h156p : r150.1 = 0 := of_decide_eq_true (bnot_false h156)
      replace hm := ite_yes hm h156p
      refine W.skip ?_
      have hs157 := St.f1 hs155
      have hs158 := St.f1 hs157
      have hs159 := St.f2 hs158
      have hs160 := St.f3 hs159
      exact ⟨r150.2, slots_intro _ (by kernel_rfl), hs160, hm⟩
     ·
      have h156p : ¬ (r150.1 = 0) := of_decide_eq_false (bnot_true h156)
      replace hm := ite_no hm h156p
      refine W.sr fun K161 hK161 => ?_
      refine zE 1 (hK161 _ _ ?_)
      refine W.ret (ret_seq ?_)
      have hs162 := St.tk0 hs155
      refine ret_of (.bool false) (by kernel_rfl) ⟨_, ⟨congrArg Value.bool (some_inj hm), rfl⟩, hs162⟩
    ·
     have h149p : ¬ (r50.2.2.2 = 0) := of_decide_eq_false (bnot_true h149)
     replace hm := ite_no hm h149p
     refine zS 53 h149 ?_
     refine zS 52 h149 ?_
     refine zR 5 ?_
     rcases Bool.eq_false_or_eq_true (!decide (r50.2.2.2 = 4)) with h163 | h163
     rotate_left
     ·
      have h163p : r50.2.2.2 = 4 := of_decide_eq_true (bnot_false h163)
      replace hm := ite_yes hm h163p
      refine zS 58 h163 ?_
      refine zS 55 h163 ?_
      refine zS 56 h163 ?_
      refine zS 57 h163 ?_
      refine zR 2 ?_
      refine ops_R (runs_loadAgg (ad := ⟨b4, 0, none⟩) (cs := [(.bool ho_), (.int .u64 hg_), (.int .u64 hk_)]) (by kernel_rfl) (cells_sub (hs60.heapAt 3 rfl) rfl)) ?_
      obtain ⟨r164, h165, hm⟩ := bind_some hm
      have hs166 := St.f1 hs60
      refine zC11 hs166 (sput_walk (vb := b42) (i_ := i_.tmod 4) (ho_ := ho_) (hg_ := hg_) (hk_ := hk_) (img := (r23.set ((sessAt (i_.tmod 4)).toNat) f_)) (l := []) (hG2 := hG2) (hL := (hs60.oldCells hL)) (hm := h165) B _) fun w167 hs169 => ?_
      refine zE 2 (hK147 _ _ ?_)
      refine W.cond (!decide (r164.1 = 0)) (by kernel_rfl) (fun h170 => ?_) (fun h170 => ?_)
      rotate_left
      ·
       have h170p : r164.1 = 0 := of_decide_eq_true (bnot_false h170)
       replace hm := ite_yes hm h170p
       refine W.skip ?_
       have hs171 := St.f1 hs169
       have hs172 := St.f1 hs171
       have hs173 := St.f2 hs172
       have hs174 := St.f3 hs173
       exact ⟨r164.2, slots_intro _ (by kernel_rfl), hs174, hm⟩
      ·
       have h170p : ¬ (r164.1 = 0) := of_decide_eq_false (bnot_true h170)
       replace hm := ite_no hm h170p
       refine W.sr fun K175 hK175 => ?_
       refine zE 1 (hK175 _ _ ?_)
       refine W.ret (ret_seq ?_)
       have hs176 := St.tk0 hs169
       refine ret_of (.bool false) (by kernel_rfl) ⟨_, ⟨congrArg Value.bool (some_inj hm), rfl⟩, hs176⟩
     ·
      have h163p : ¬ (r50.2.2.2 = 4) := of_decide_eq_false (bnot_true h163)
      replace hm := ite_no hm h163p
      refine zS 58 h163 ?_
      refine zS 55 h163 ?_
      refine zS 56 h163 ?_
      refine zS 57 h163 ?_
      refine zE 6 (hK147 _ _ ?_)
      refine W.cond_true true (by kernel_rfl) rfl ?_
      refine W.sr fun K177 hK177 => ?_
      refine zE 1 (hK177 _ _ ?_)
      refine W.ret (ret_seq ?_)
      have hs178 := St.tk0 hs60
      refine ret_of (.bool false) (by kernel_rfl) ⟨_, ⟨congrArg Value.bool (some_inj hm), rfl⟩, hs178⟩
   ·
    have h148p : ¬ ((r50.2.2.2 = 0) ↔ (f_ ≤ 1)) := beq_no decide_eq_true_iff decide_eq_true_iff (bnot_true h148)
    replace hm := ite_no hm h148p
    refine zS 50 h148 ?_
    refine zS 49 h148 ?_
    refine zE 14 (hK147 _ _ ?_)
    refine W.cond_true true (by kernel_rfl) rfl ?_
    refine W.sr fun K179 hK179 => ?_
    refine zE 1 (hK179 _ _ ?_)
    refine W.ret (ret_seq ?_)
    have hs180 := St.tk0 hs60
    refine ret_of (.bool false) (by kernel_rfl) ⟨_, ⟨congrArg Value.bool (some_inj hm), rfl⟩, hs180⟩

end Go.Proofs.YthimamnblklkbaaDoor

namespace Go.Proofs.YthimamnblklkbaaDoor
open Go Go.RowKit
set_option linter.unusedVariables false
set_option linter.unusedSimpArgs false

theorem slotheads_law {ts : List TTn} {i_ : Int} {ho_ : Bool} {hg_ hk_ f_ : Int} (hi : 0 ≤ i_ ∧ i_ ≤ 255) (hg : 0 ≤ hg_ ∧ hg_ ≤ 18446744073709551615) (hk : 0 ≤ hk_ ∧ hk_ ≤ 18446744073709551615) (hf : 0 ≤ f_ ∧ f_ ≤ 18446744073709551615) (ht : ∀ x ∈ ts, good_Tn x) :
    slotheads_M ts i_ ho_ hg_ hk_ f_ = some true := by
  refine Ok.true ?_
  have hs4 := Int.tmod_eq_emod_of_nonneg (b := 4) hi.1
  have hir : 0 ≤ i_.tmod 4 ∧ i_.tmod 4 < 4 := by omega
  have ug : U64 hg_ := by unfold U64; omega
  have uk : U64 hk_ := by unfold U64; omega
  have uf : U64 f_ := by unfold U64; omega
  have hsr := sess_range (i_.tmod 4)
  unfold slotheads_M
  refine Ok.ite (fun _ => works10_stop) fun h40 => ?_
  refine Ok.need (by omega) (Ok.need (by omega) ?_)
  refine Ok.bind (image_least ht (by omega)) fun ws hws => ?_
  obtain ⟨hwl, hwu⟩ := hws
  have hIl : (ws.set ((sessAt (i_.tmod 4)).toNat) f_).length = 536 := by rw [List.length_set]; exact hwl
  have hIu := mem_set_u64 hwu (k := (sessAt (i_.tmod 4)).toNat) uf
  have hJ := VJ.start hIu (by omega)
  have h0 : thereF (ws.set ((sessAt (i_.tmod 4)).toNat) f_) (i_.tmod 4) 0 = 0 := thereF_in hir (by omega) (by omega)
  have hw0 : vget (ws.set ((sessAt (i_.tmod 4)).toNat) f_) [] (sessAt (i_.tmod 4)) = f_ := by
    rw [← img_at (by omega), getD_set, if_pos ⟨rfl, by omega⟩]
  have hz := thereF_zero h0
  have B0 : ∀ (l : List (Int × Int)) (r : Bool × Int × Int × Int), VJ (ws.set ((sessAt (i_.tmod 4)).toNat) f_) l → l.length ≤ 3 → r = (ho_, hg_, hk_, 0) →
      (∀ j, ¬ (sessAt (i_.tmod 4) ≤ j ∧ j < sessAt (i_.tmod 4) + 3) → vget (ws.set ((sessAt (i_.tmod 4)).toNat) f_) l j = vget (ws.set ((sessAt (i_.tmod 4)).toNat) f_) [] j) →
      Ok (· = true) (iter (fun k_ s_ => slotheads_B0 i_ ho_ hg_ hk_ f_ ws l r k_ s_) FUEL 0) := by
    intro l r hl h3 hr hfr
    subst hr
    have hfl := vflat_length (ws.set ((sessAt (i_.tmod 4)).toNat) f_) l
    have stop : Ok (· = true) (slotheads_J2 i_ ho_ hg_ hk_ f_ ws l (ho_, hg_, hk_, 0)) := by
      unfold slotheads_J2
      exact Ok.yes rfl (Ok.yes ⟨rfl, rfl, rfl⟩ (Ok.yes (by omega) (Ok.yes (by omega) works10_stop)))
    refine Ok.iter (fun p => 0 ≤ p) (fun p => ((ws.length : Int) - p).toNat) ?_ _ _ (by omega) (fuel_lt (by omega))
    intro k p h1 ih
    unfold slotheads_B0
    refine Ok.ite (fun hp => ?_) (fun _ => stop)
    refine Ok.ite (fun hp2 => ?_) (fun _ => stop)
    have same : ¬ (sessAt (i_.tmod 4) ≤ p ∧ p < sessAt (i_.tmod 4) + 3) → (vflat (ws.set ((sessAt (i_.tmod 4)).toNat) f_) l).getD p.toNat 0 = (ws.set ((sessAt (i_.tmod 4)).toNat) f_).getD p.toNat 0 := by
      intro h
      rw [flat_at hl.2 (by omega), img_at (by omega), hfr p h]
    refine Ok.ite (fun h2 => ?_) (fun h2 => ?_)
    · exact Ok.need (by omega) (Ok.need (by omega) (Ok.need (by omega) (Ok.yes (same (by omega)) (Ok.need (by omega) (ih _ (by omega) (by omega))))))
    · refine Ok.need (by omega) (Ok.ite (fun h3 => ?_) (fun h3 => ?_))
      · exact Ok.need (by omega) (Ok.need (by omega) (Ok.need (by omega) (Ok.yes (same (by omega)) (Ok.need (by omega) (ih _ (by omega) (by omega))))))
      · exact Ok.need (by omega) (ih _ (by omega) (by omega))
  refine Ok.need (by omega) (Ok.need (by omega) (Ok.need (by omega) (Ok.need (by omega) ?_)))
  rw [sget_eq]
  simp only [Option.bind, sput_eq]
  have hget : (getF (ws.set ((sessAt (i_.tmod 4)).toNat) f_) [] (i_.tmod 4)).2.2.2 = if f_ > 1 then 4 else 0 := by
    unfold getF
    rw [if_pos h0, hw0]
    split <;> rfl
  rw [hget]
  obtain ⟨m, em, vm, lm, gm⟩ := putF_in (o := ho_) (g := hg_) (k := hk_) hJ h0 ug uk (by simp)
  rw [em]
  simp only [if_true]
  have J1 : Ok (· = true) (slotheads_J1 i_ ho_ hg_ hk_ f_ ws m) := by
    unfold slotheads_J1
    rw [sget_eq]
    simp only [Option.bind]
    refine B0 m _ vm (by simpa using lm) ?_ ?_
    · rw [getF_in (o := ho_) h0 (by rw [gm]; simp only [said, if_true]; rw [if_neg (by omega), if_neg (by omega)])]
      rw [gm, gm]
      simp only [said, if_true]
      rw [if_neg (by omega)]
    · intro j hj
      rw [gm]
      simp only [said]
      rw [if_neg (by omega), if_neg (by omega), if_neg (by omega)]
  by_cases h1 : f_ > 1
  · rw [if_pos h1]
    exact Ok.yes ⟨fun h => absurd h (by decide), fun h => absurd h (by omega)⟩ (Ok.no (by decide) (Ok.yes rfl J1))
  · rw [if_neg h1]
    exact Ok.yes ⟨fun _ => by omega, fun _ => rfl⟩ (Ok.yes rfl J1)
end Go.Proofs.YthimamnblklkbaaDoor
