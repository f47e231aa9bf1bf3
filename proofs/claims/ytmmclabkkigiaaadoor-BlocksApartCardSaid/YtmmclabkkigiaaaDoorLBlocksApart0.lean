/- Texts, one behind the other: ALbAp, PLbAp. -/
import Derived.Test.YtmmclabkkigiaaaDoorQBN5
set_option linter.unusedVariables false
set_option linter.unusedSimpArgs false
set_option linter.unusedVariables false
set_option maxRecDepth 20000
set_option maxHeartbeats 4000000
namespace Go.Proofs.YtmmclabkkigiaaaDoor
open Go Go.RowKit
set_option linter.unusedSimpArgs false
set_option linter.unusedVariables false

def blocksapart_J3 (m_ : Int) (k49 : ((List Int) × Nat × Int) → Option (Bool)) (q46 : List Int) (p48 : Int) (r84 : List Int) (l96 : List (Int × Int)) : Option (Bool) :=
 (bList_M q46 l96 1 (2 + 1 % 20) (2 + m_ % 60) (2 - p48.tmod 2)).bind fun r120 =>
(sameints_M r120 r84).bind fun r127 =>
if r127 = true then ((some (wordsOf 1 (2 + 1 % 20) (2 + m_ % 60))).bind fun r133 =>
if (((vflat q46 l96).length) : Int) = r133 then (need (-9223372036854775808 ≤ (p48 + 1) ∧ (p48 + 1) ≤ 9223372036854775807) <|
k49 ((vflat q46 l96), (vflat q46 l96).length, (p48 + 1))) else (some false)) else (some false)

def blocksapart_B2 (r84 : List Int) (r102 : List Int) (k151 : Int → Option (Bool)) (p150 : Int) (k168 : Int → Option (Bool)) (p167 : Int) : Option (Bool) :=
 if p167 < (r84.length : Int) then (need (0 ≤ p150 ∧ p150 < (r102.length : Int)) <|
need (0 ≤ p167 ∧ p167 < (r84.length : Int)) <|
if (r102.getD p150.toNat 0) = (r84.getD p167.toNat 0) then (some false) else (need (-9223372036854775808 ≤ (p167 + 1) ∧ (p167 + 1) ≤ 9223372036854775807) <|
k168 (p167 + 1))) else (need (-9223372036854775808 ≤ (p150 + 1) ∧ (p150 + 1) ≤ 9223372036854775807) <|
k151 (p150 + 1))

def blocksapart_B1 (m_ : Int) (k49 : ((List Int) × Nat × Int) → Option (Bool)) (q46 : List Int) (p48 : Int) (r84 : List Int) (l96 : List (Int × Int)) (r102 : List Int) (k151 : Int → Option (Bool)) (p150 : Int) : Option (Bool) :=
 if p150 < (r102.length : Int) then (iter (fun k_ s_ => blocksapart_B2 r84 r102 k151 p150 k_ s_) FUEL 0) else (blocksapart_J3 m_ k49 q46 p48 r84 l96)

def blocksapart_J2 (m_ : Int) (k49 : ((List Int) × Nat × Int) → Option (Bool)) (q46 : List Int) (p48 : Int) (r84 : List Int) (l96 : List (Int × Int)) : Option (Bool) :=
 (bList_M q46 l96 1 (2 + 1 % 20) (2 + m_ % 60) (1 + p48.tmod 2)).bind fun r102 =>
iter (fun k_ s_ => blocksapart_B1 m_ k49 q46 p48 r84 l96 r102 k_ s_) FUEL 0

def blocksapart_B0 (m_ : Int) (ss : List TSt13) (k49 : ((List Int) × Nat × Int) → Option (Bool)) (q46 : List Int) (n47 : Nat) (p48 : Int) : Option (Bool) :=
 if p48 < (ss.length : Int) then (need (n47 = q46.length) <|
need (q46.length ≤ 17592186044415) <|
need (-9223372036854775808 ≤ (1 + p48.tmod 2) ∧ (1 + p48.tmod 2) ≤ 9223372036854775807) <|
if (igetM q46 ([]) 1 (2 + 1 % 20) (2 + m_ % 60) (1 + p48.tmod 2)).2 = 0 then (need (-9223372036854775808 ≤ (2 - p48.tmod 2) ∧ (2 - p48.tmod 2) ≤ 9223372036854775807) <|
if (igetM q46 ([]) 1 (2 + 1 % 20) (2 + m_ % 60) (2 - p48.tmod 2)).2 = 0 then ((bList_M q46 ([]) 1 (2 + 1 % 20) (2 + m_ % 60) (2 - p48.tmod 2)).bind fun r84 =>
need (0 ≤ p48 ∧ p48 < (ss.length : Int)) <|
(some ((mx ((ss.getD p48.toNat dSt13).c1) 0).tmod 12)).bind fun r94 =>
need (0 ≤ p48 ∧ p48 < (ss.length : Int)) <|
if ((ss.getD p48.toNat dSt13).c0).tmod 3 = 2 then ((bDrop_M q46 ([]) 1 (2 + 1 % 20) (2 + m_ % 60) (1 + p48.tmod 2) r94).bind fun r191 =>
blocksapart_J2 m_ k49 q46 p48 r84 r191.2) else ((bTake_M q46 ([]) 1 (2 + 1 % 20) (2 + m_ % 60) (1 + p48.tmod 2) r94).bind fun r204 =>
blocksapart_J2 m_ k49 q46 p48 r84 r204.2.2)) else ((some ((igetM q46 ([]) 1 (2 + 1 % 20) (2 + m_ % 60) (2 - p48.tmod 2)).2)).bind fun r220 =>
some false)) else ((some ((igetM q46 ([]) 1 (2 + 1 % 20) (2 + m_ % 60) (1 + p48.tmod 2)).2)).bind fun r229 =>
need (-9223372036854775808 ≤ (2 - p48.tmod 2) ∧ (2 - p48.tmod 2) ≤ 9223372036854775807) <|
if (igetM q46 ([]) 1 (2 + 1 % 20) (2 + m_ % 60) (2 - p48.tmod 2)).2 = 0 then (some false) else ((some ((igetM q46 ([]) 1 (2 + 1 % 20) (2 + m_ % 60) (2 - p48.tmod 2)).2)).bind fun r245 =>
some false))) else ((works13_M).bind fun r252 =>
some r252)

def blocksapart_M (m_ : Int) (ss : List TSt13) : Option (Bool) :=
 if (ss.length : Int) > 40 then ((works13_M).bind fun r6 =>
some r6) else (need ((0 : Int) ≤ 1 ∧ (1 : Int) ≤ 255) <|
need ((0 : Int) ≤ m_ ∧ (m_ : Int) ≤ 255) <|
(some (placeOf 8 1 (2 + 1 % 20) (2 + m_ % 60) 2)).bind fun r30 =>
need (0 ≤ r30 ∧ r30 < (((fmtW 1 (2 + 1 % 20) (2 + m_ % 60)).length) : Int)) <|
iter (fun k_ s_ => blocksapart_B0 m_ ss k_ s_.1 s_.2.1 s_.2.2) FUEL (((fmtW 1 (2 + 1 % 20) (2 + m_ % 60)).set r30.toNat 1), (fmtW 1 (2 + 1 % 20) (2 + m_ % 60)).length, 0))

theorem blocksapart_walk {m_ : Int} {ss : List TSt13} {sa : Option Addr} {sc : Nat}  (B : Nat) (w : World) (hB : w.heap.size = B) (hT : CellsAt (some ⟨0, 0, none⟩) tab8 w) (hst : CellsAt sa (kSt13.cells ss) w) (hm : blocksapart_M m_ ss = some true) : Spec Tryd.prog 4 #[(.int .u8 m_), (.slice sa ss.length sc)] B w [] (fun v H' => v = .bool true ∧ H' = []) := by
 refine spec_Q Tryd.func4 rfl fun hs => ?_
 unfold blocksapart_M at hm
 have hG : 0 < B := by rw [← hB]; exact lt_of_cells hT (v := .int .u8 0) (by kernel_rfl)
 refine W.sr fun K1 hK1 => ?_
 refine zE 1 (hK1 _ _ ?_)
 refine W.seq fun K2 hK2 => ?_
 refine W.sr fun K3 hK3 => ?_
 refine zE 3 (hK3 _ _ ?_)
 refine W.cond (decide ((ss.length : Int) > 40)) (by kernel_rfl) (fun h4 => ?_) (fun h4 => ?_)
 ·
  obtain ⟨h4p, hm⟩ := iY hm h4
  refine W.sr fun K5 hK5 => ?_
  obtain ⟨r6, h7, hm⟩ := bind_some hm
  refine zC00 hs (works13_walk (hG := hG) (hT := (hs.oldCells hT)) (hm := h7) B _) fun w8 hs10 => ?_
  refine zE 1 (hK5 _ _ ?_)
  refine W.ret (ret_seq ?_)
  refine ret_of (.bool r6) (by kernel_rfl) ⟨_, ⟨congrArg Value.bool (some_inj hm), rfl⟩, hs10⟩
 ·
  obtain ⟨h4p, hm⟩ := iN hm h4
  refine W.skip ?_
  refine hK2 _ _ ?_
  refine W.sr fun K11 hK11 => ?_
  refine zR 1 ?_
  obtain ⟨h12, hm⟩ := need_some hm
  obtain ⟨h13, hm⟩ := need_some hm
  refine zC00 hs (small_spec (x_ := 1) (y_ := m_) (hx := h12) (hy := h13) B _) fun w14 hs16 => ?_
  refine zN [(.int .i64 0), (.int .i64 0), (.int .i64 0)] 23 hs16 fun b19 w17 hs18 => ?_
  refine ops_store (off := 0) (cs := [(.int .i64 0), (.int .i64 0), (.int .i64 0)]) (vs := [(.int .i64 1), (.int .i64 (2 + 1 % 20)), (.int .i64 (2 + m_ % 60))]) hs18 (by kernel_rfl) (by simp) rfl (fun w20 hs21 => ?_)
  have hs22 : St B w [] w20 [blk b19 (.cells [(.int .i64 1), (.int .i64 (2 + 1 % 20)), (.int .i64 (2 + m_ % 60))].toArray 23 (0, 0))] := hs21
  refine zD (hK11 _ _ ?_)
  refine W.sr fun K23 hK23 => ?_
  refine ops_R (runs_loadAgg (ad := ⟨b19, 0, none⟩) (cs := [(.int .i64 1), (.int .i64 (2 + 1 % 20)), (.int .i64 (2 + m_ % 60))]) (by kernel_rfl) (cells_sub (hs22.heapAt 0 rfl) rfl)) ?_
  refine ops_call0 hs22 (by kernel_rfl) (format_spec (gw := 1) (gi := (2 + 1 % 20)) (gb := (2 + m_ % 60)) B _) ?_
  rintro _ _ w26 ⟨a24, c25, rfl, rfl⟩ hs27
  have hs28 := St.ap1 hs27
  refine zE 1 (hK23 _ _ ?_)
  refine W.sr fun K29 hK29 => ?_
  refine zR 1 ?_
  refine ops_R (runs_loadAgg (ad := ⟨b19, 0, none⟩) (cs := [(.int .i64 1), (.int .i64 (2 + 1 % 20)), (.int .i64 (2 + m_ % 60))]) (by kernel_rfl) (cells_sub (hs28.heapAt 1 rfl) rfl)) ?_
  obtain ⟨r30, h31, hm⟩ := bind_some hm
  replace h31 := some_inj h31
  refine ops_call0 hs28 (by kernel_rfl) (inodeat_spec (gw := 1) (gi := (2 + 1 % 20)) (gb := (2 + m_ % 60)) (n_ := 2) B _) ?_
  rintro _ _ w32 ⟨hv34, hH35⟩ hs33
  rw [h31] at hv34
  try rw [h31] at hH35
  subst hv34 hH35
  have hs36 := St.ap0 hs33
  obtain ⟨h38, hm⟩ := need_some hm
  have hk37 := lt_toNat h38
  refine ops_R (runs_index (a := a24) (n := (fmtW 1 (2 + 1 % 20) (2 + m_ % 60)).length) (z := r30) (size := 1) r30.toNat (nat_of h38.1) hk37 (kU64.addr (St.kcells kU64 hs36 0 rfl) hk37) (by kernel_rfl)) ?_
  refine ops_storeK kU64 (j := 0) (vs := [(.int .u64 1)]) 0 1 hs36 hk37 (Nat.le_of_ble_eq_true rfl) (by simp) rfl rfl (by kernel_rfl) (fun w39 hs40 => ?_)
  refine zD (hK29 _ _ ?_)
  refine W.seq fun K42 hK42 => ?_
  refine W.sr fun K43 hK43 => ?_
  refine zE 1 (hK43 _ _ ?_)
  refine W.block ?_
  have hs53 := St.f1 hs40
  refine W.loop_iter (G := (List Int) × Nat × Int × (Option Addr) × Nat) (σ := (List Int) × Nat × Int) (fun | (q46, n47, p48, m44, m45) => (q46, n47, p48)) (fun | (q46, n47, p48, m44, m45), s_, w_ => (∃ us, s_ = slots 134 [(1, (.slice sa ss.length sc)), (5, (.pointer (some ⟨b19, 0, none⟩))), (6, (.slice m44 n47 m45)), (7, (.int .i64 p48))] us) ∧ St B w [] w_ [blk b19 (.cells [(.int .i64 1), (.int .i64 (2 + 1 % 20)), (.int .i64 (2 + m_ % 60))].toArray 23 (0, 0)), kU64.row m44 m45 q46]) (((fmtW 1 (2 + 1 % 20) (2 + m_ % 60)).set r30.toNat 1), (fmtW 1 (2 + 1 % 20) (2 + m_ % 60)).length, 0, a24, c25) ⟨slots_intro _ (by kernel_rfl), hs53⟩ hm ?_
  rintro k49 ih50 ⟨q46, n47, p48, m44, m45⟩ _ w51 ⟨⟨us, rfl⟩, hs52⟩ hm
  replace hm : blocksapart_B0 m_ ss k49 q46 n47 p48 = some true := hm
  unfold blocksapart_B0 at hm
  refine W.seq fun K54 hK54 => ?_
  refine W.sr fun K55 hK55 => ?_
  refine zE 4 (hK55 _ _ ?_)
  refine W.cond (decide (p48 < (ss.length : Int))) (by kernel_rfl) (fun h56 => ?_) (fun h56 => ?_)
  ·
   obtain ⟨h56p, hm⟩ := iY hm h56
   refine W.skip ?_
   refine hK54 _ _ ?_
   refine W.seq fun K57 hK57 => ?_
   refine W.block ?_
   refine W.sr fun K58 hK58 => ?_
   refine zR 1 ?_
   obtain ⟨h59, hm⟩ := need_some hm
   refine ops_set 36 (v := (.slice m44 q46.length m45)) (Eq.trans (by kernel_rfl) (congrArg (fun n_ => Value.slice m44 n_ m45) h59)) ?_
   obtain ⟨h61, hm⟩ := need_some hm
   refine ops_call0 hs52 (by kernel_rfl) (new_spec (hc := (St.kcells kU64 hs52 1 rfl)) (hn := (St.capnil kU64 hs52 1 rfl)) (hsz := h61) B _) ?_
   rintro _ _ w62 ⟨b60, rfl, rfl⟩ hs63
   have hs64 := St.ap1 hs63
   refine zE 1 (hK58 _ _ ?_)
   refine W.sr fun K65 hK65 => ?_
   refine zR 1 ?_
   refine ops_R (runs_loadAgg (ad := ⟨b19, 0, none⟩) (cs := [(.int .i64 1), (.int .i64 (2 + 1 % 20)), (.int .i64 (2 + m_ % 60))]) (by kernel_rfl) (cells_sub (hs64.heapAt 1 rfl) rfl)) ?_
   refine zR 2 ?_
   obtain ⟨h66, hm⟩ := need_some hm
   refine zI _ (wrap_i64 h66.1 h66.2) ?_
   rcases Bool.eq_false_or_eq_true (decide ((igetM q46 ([]) 1 (2 + 1 % 20) (2 + m_ % 60) (1 + p48.tmod 2)).2 = 0)) with h67 | h67
   ·
    obtain ⟨h67p, hm⟩ := iY hm h67
    refine ops_call0 hs64 (by kernel_rfl) (bof_ok (gw := 1) (gi := (2 + 1 % 20)) (gb := (2 + m_ % 60)) (n_ := (1 + p48.tmod 2)) (hv := (hs64.entAt 0 rfl viewA_at)) (hP := h67p) B _) ?_
    rintro _ _ w69 ⟨b68, rfl, rfl⟩ hs70
    have hs71 := St.ap1 hs70
    refine zE 5 (hK65 _ _ ?_)
    refine W.sr fun K72 hK72 => ?_
    refine zR 1 ?_
    refine ops_R (runs_loadAgg (ad := ⟨b19, 0, none⟩) (cs := [(.int .i64 1), (.int .i64 (2 + 1 % 20)), (.int .i64 (2 + m_ % 60))]) (by kernel_rfl) (cells_sub (hs71.heapAt 2 rfl) rfl)) ?_
    refine zR 2 ?_
    obtain ⟨h73, hm⟩ := need_some hm
    refine zI _ (wrap_i64 h73.1 h73.2) ?_
    rcases Bool.eq_false_or_eq_true (decide ((igetM q46 ([]) 1 (2 + 1 % 20) (2 + m_ % 60) (2 - p48.tmod 2)).2 = 0)) with h74 | h74
    ·
     obtain ⟨h74p, hm⟩ := iY hm h74
     refine ops_call0 hs71 (by kernel_rfl) (bof_ok (gw := 1) (gi := (2 + 1 % 20)) (gb := (2 + m_ % 60)) (n_ := (2 - p48.tmod 2)) (hv := (hs71.entAt 1 rfl viewA_at)) (hP := h74p) B _) ?_
     rintro _ _ w76 ⟨b75, rfl, rfl⟩ hs77
     have hs78 := St.ap1 hs77
     refine zE 5 (hK72 _ _ ?_)
     refine W.seq fun K79 hK79 => ?_
     refine W.sr fun K80 hK80 => ?_
     refine zE 18 (hK80 _ _ ?_)
     refine W.cond_false false (by kernel_rfl) rfl ?_
     refine W.skip ?_
     refine hK79 _ _ ?_
     refine W.sr fun K81 hK81 => ?_
     refine zR 1 ?_
     obtain ⟨r84, h85, hm⟩ := bind_some hm
     have hs86 := St.f2 hs78
     have hs87 := St.f1 hs86
     refine ops_call2 hs87 (by kernel_rfl) (bList_walk (mb := b75) (vb := b60) (img := q46) (l := []) (gw := 1) (gi := (2 + 1 % 20)) (gb := (2 + m_ % 60)) (n_ := (2 - p48.tmod 2)) (hm := h85) B _) ?_
     rintro _ _ w88 ⟨a82, c83, rfl, rfl⟩ hs89
     have hs90 := St.ap3 hs89
     refine zE 1 (hK81 _ _ ?_)
     refine W.sr fun K91 hK91 => ?_
     refine zR 2 ?_
     obtain ⟨h93, hm⟩ := need_some hm
     have hk92 := lt_toNat h93
     refine ops_R (runs_index (a := sa) (n := ss.length) (z := p48) (size := 3) p48.toNat (nat_of h93.1) hk92 (kSt13.addr (hs90.oldCells hst) hk92) (by kernel_rfl)) ?_
     refine zR 1 ?_
     refine zL ((adr sa (p48.toNat * 3)).add 1) (.int .i64 ((ss.getD p48.toNat dSt13).c1)) (kSt13.at (hs90.oldCells hst) hk92 dSt13 1 rfl) ?_
     refine zR 3 ?_
     obtain ⟨r94, h95, hm⟩ := bind_some hm
     replace h95 := some_inj h95
     refine ops_set 14 (v := .int .i64 r94) (Eq.trans (by kernel_rfl) (congrArg (Value.int .i64) h95)) ?_
     refine zD (hK91 _ _ ?_)
     refine W.seq_join (fun s_ w_ => ∃ (l96 : List (Int × Int)), (∃ us, s_ = slots 134 [(1, (.slice sa ss.length sc)), (5, (.pointer (some ⟨b19, 0, none⟩))), (7, (.int .i64 p48)), (8, (.pointer (some ⟨b60, 0, none⟩))), (9, (.pointer (some ⟨b68, 0, none⟩))), (11, (.pointer (some ⟨b75, 0, none⟩))), (13, (.slice a82 r84.length c83))] us) ∧ St B w [] w_ [blk b19 (.cells [(.int .i64 1), (.int .i64 (2 + 1 % 20)), (.int .i64 (2 + m_ % 60))].toArray 23 (0, 0)), viewA (ptr b60) q46 l96, blk b68 (.cells [(.pointer (some ⟨b60, 0, none⟩)), (.int .i64 1), (.int .i64 (2 + 1 % 20)), (.int .i64 (2 + m_ % 60)), (.int .i64 (1 + p48.tmod 2))].toArray 85 (0, 0)), blk b75 (.cells [(.pointer (some ⟨b60, 0, none⟩)), (.int .i64 1), (.int .i64 (2 + 1 % 20)), (.int .i64 (2 + m_ % 60)), (.int .i64 (2 - p48.tmod 2))].toArray 85 (0, 0)), kInt.row a82 c83 r84, kU64.row m44 m45 q46] ∧ blocksapart_J2 m_ k49 q46 p48 r84 l96 = some true) ?_ ?_
     ·
      rintro _ w97 ⟨l96, ⟨us, rfl⟩, hs98, hm⟩
      unfold blocksapart_J2 at hm
      refine W.sr fun K99 hK99 => ?_
      refine zR 1 ?_
      obtain ⟨r102, h103, hm⟩ := bind_some hm
      have hs104 := St.f1 hs98
      have hs105 := St.f2 hs104
      refine ops_call2 hs105 (by kernel_rfl) (bList_walk (mb := b68) (vb := b60) (img := q46) (l := l96) (gw := 1) (gi := (2 + 1 % 20)) (gb := (2 + m_ % 60)) (n_ := (1 + p48.tmod 2)) (hm := h103) B _) ?_
      rintro _ _ w106 ⟨a100, c101, rfl, rfl⟩ hs107
      have hs108 := St.ap3 hs107
      refine zE 1 (hK99 _ _ ?_)
      refine W.seq_join (fun s_ w_ => (∃ us, s_ = slots 134 [(1, (.slice sa ss.length sc)), (5, (.pointer (some ⟨b19, 0, none⟩))), (7, (.int .i64 p48)), (8, (.pointer (some ⟨b60, 0, none⟩))), (11, (.pointer (some ⟨b75, 0, none⟩))), (13, (.slice a82 r84.length c83))] us) ∧ St B w [] w_ [blk b19 (.cells [(.int .i64 1), (.int .i64 (2 + 1 % 20)), (.int .i64 (2 + m_ % 60))].toArray 23 (0, 0)), viewA (ptr b60) q46 l96, blk b75 (.cells [(.pointer (some ⟨b60, 0, none⟩)), (.int .i64 1), (.int .i64 (2 + 1 % 20)), (.int .i64 (2 + m_ % 60)), (.int .i64 (2 - p48.tmod 2))].toArray 85 (0, 0)), kInt.row a82 c83 r84, kInt.row a100 c101 r102, blk b68 (.cells [(.pointer (some ⟨b60, 0, none⟩)), (.int .i64 1), (.int .i64 (2 + 1 % 20)), (.int .i64 (2 + m_ % 60)), (.int .i64 (1 + p48.tmod 2))].toArray 85 (0, 0)), kU64.row m44 m45 q46] ∧ blocksapart_J3 m_ k49 q46 p48 r84 l96 = some true) ?_ ?_
      ·
       rintro _ w109 ⟨⟨us, rfl⟩, hs110, hm⟩
       unfold blocksapart_J3 at hm
       refine W.sr fun K111 hK111 => ?_
       refine zR 1 ?_
       refine ops_call0 hs110 (by kernel_rfl) (flat_spec (hv := (hs110.entAt 1 rfl viewA_at)) B _) ?_
       rintro _ _ w114 ⟨a112, c113, rfl, rfl⟩ hs115
       have hs116 := St.ap1 hs115
       refine zE 1 (hK111 _ _ ?_)
       refine W.sr fun K117 hK117 => ?_
       refine zR 1 ?_
       obtain ⟨r120, h121, hm⟩ := bind_some hm
       have hs122 := St.f2 hs116
       have hs123 := St.f3 hs122
       refine ops_call2 hs123 (by kernel_rfl) (bList_walk (mb := b75) (vb := b60) (img := q46) (l := l96) (gw := 1) (gi := (2 + 1 % 20)) (gb := (2 + m_ % 60)) (n_ := (2 - p48.tmod 2)) (hm := h121) B _) ?_
       rintro _ _ w124 ⟨a118, c119, rfl, rfl⟩ hs125
       have hs126 := St.ap3 hs125
       refine zR 1 ?_
       obtain ⟨r127, h128, hm⟩ := bind_some hm
       refine zC00 hs126 (sameints_walk (xs := r120) (ys := r84) (xc := c119) (yc := c83) (hx := (St.kcells kInt hs126 0 rfl)) (hy := (St.kcells kInt hs126 5 rfl)) (hm := h128) B _) fun w129 hs131 => ?_
       refine zR 2 ?_
       rcases Bool.eq_false_or_eq_true (!r127) with h132 | h132
       rotate_left
       ·
        have h132p : r127 = true := (bnot_false h132)
        replace hm := ite_yes hm h132p
        refine zS 126 h132 ?_
        refine zS 125 h132 ?_
        refine zR 2 ?_
        refine ops_R (runs_loadAgg (ad := ⟨b19, 0, none⟩) (cs := [(.int .i64 1), (.int .i64 (2 + 1 % 20)), (.int .i64 (2 + m_ % 60))]) (by kernel_rfl) (cells_sub (hs131.heapAt 4 rfl) rfl)) ?_
        obtain ⟨r133, h134, hm⟩ := bind_some hm
        replace h134 := some_inj h134
        refine ops_call0 hs131 (by kernel_rfl) (lwords_spec (gw := 1) (gi := (2 + 1 % 20)) (gb := (2 + m_ % 60)) B _) ?_
        rintro _ _ w135 ⟨hv137, hH138⟩ hs136
        rw [h134] at hv137
        try rw [h134] at hH138
        subst hv137 hH138
        have hs139 := St.ap0 hs136
        refine zE 2 (hK117 _ _ ?_)
        refine W.cond (!decide ((((vflat q46 l96).length) : Int) = r133)) (by kernel_rfl) (fun h140 => ?_) (fun h140 => ?_)
        rotate_left
        ·
         have h140p : (((vflat q46 l96).length) : Int) = r133 := of_decide_eq_true (bnot_false h140)
         replace hm := ite_yes hm h140p
         refine W.skip ?_
         refine normal_block ?_
         refine hK57 _ _ ?_
         refine W.region ?_
         refine zR 1 ?_
         obtain ⟨h141, hm⟩ := need_some hm
         refine zI _ (wrap_i64 h141.1 h141.2) ?_
         refine zE 1 ?_
         have hs142 := St.f3 hs139
         have hs143 := St.f4 hs142
         have hs144 := St.tk2 hs143
         refine loopAt_next ?_
         exact ih50 ((vflat q46 l96), (vflat q46 l96).length, (p48 + 1), a112, c113) _ _ ⟨slots_intro _ (by kernel_rfl), hs144⟩ hm
        ·
         have h140p : ¬ ((((vflat q46 l96).length) : Int) = r133) := of_decide_eq_false (bnot_true h140)
         replace hm := ite_no hm h140p
         refine W.sr fun K145 hK145 => ?_
         refine zE 1 (hK145 _ _ ?_)
         refine W.ret (ret_block (ret_seq (ret_seq (ret_block (ret_seq ?_)))))
         have hs146 := St.tk0 hs139
         refine ret_of (.bool false) (by kernel_rfl) ⟨_, ⟨congrArg Value.bool (some_inj hm), rfl⟩, hs146⟩
       ·
        have h132p : ¬ (r127 = true) := ne_true_of_eq_false (bnot_true h132)
        replace hm := ite_no hm h132p
        refine zS 126 h132 ?_
        refine zS 125 h132 ?_
        refine zE 6 (hK117 _ _ ?_)
        refine W.cond_true true (by kernel_rfl) rfl ?_
        refine W.sr fun K147 hK147 => ?_
        refine zE 1 (hK147 _ _ ?_)
        refine W.ret (ret_block (ret_seq (ret_seq (ret_block (ret_seq ?_)))))
        have hs148 := St.tk0 hs131
        refine ret_of (.bool false) (by kernel_rfl) ⟨_, ⟨congrArg Value.bool (some_inj hm), rfl⟩, hs148⟩
      ·
       refine W.sr fun K149 hK149 => ?_
       refine zE 1 (hK149 _ _ ?_)
       refine W.block ?_
       have hs155 := St.f6 hs108
       have hs156 := St.f2 hs155
       have hs157 := St.f2 hs156
       have hs158 := St.f6 hs157
       have hs159 := St.f6 hs158
       have hs160 := St.f5 hs159
       have hs161 := St.f6 hs160
       refine W.loop_iter (G := Int) (σ := Int) (fun | p150 => p150) (fun | p150, s_, w_ => (∃ us, s_ = slots 134 [(1, (.slice sa ss.length sc)), (5, (.pointer (some ⟨b19, 0, none⟩))), (7, (.int .i64 p48)), (8, (.pointer (some ⟨b60, 0, none⟩))), (11, (.pointer (some ⟨b75, 0, none⟩))), (13, (.slice a82 r84.length c83)), (15, (.slice a100 r102.length c101)), (16, (.int .i64 p150))] us) ∧ St B w [] w_ [blk b19 (.cells [(.int .i64 1), (.int .i64 (2 + 1 % 20)), (.int .i64 (2 + m_ % 60))].toArray 23 (0, 0)), viewA (ptr b60) q46 l96, blk b75 (.cells [(.pointer (some ⟨b60, 0, none⟩)), (.int .i64 1), (.int .i64 (2 + 1 % 20)), (.int .i64 (2 + m_ % 60)), (.int .i64 (2 - p48.tmod 2))].toArray 85 (0, 0)), kInt.row a82 c83 r84, kInt.row a100 c101 r102, blk b68 (.cells [(.pointer (some ⟨b60, 0, none⟩)), (.int .i64 1), (.int .i64 (2 + 1 % 20)), (.int .i64 (2 + m_ % 60)), (.int .i64 (1 + p48.tmod 2))].toArray 85 (0, 0)), kU64.row m44 m45 q46]) 0 ⟨slots_intro _ (by kernel_rfl), hs161⟩ hm ?_
       rintro k151 ih152 p150 _ w153 ⟨⟨us, rfl⟩, hs154⟩ hm
       replace hm : blocksapart_B1 m_ k49 q46 p48 r84 l96 r102 k151 p150 = some true := hm
       unfold blocksapart_B1 at hm
       refine W.seq fun K162 hK162 => ?_
       refine W.sr fun K163 hK163 => ?_
       refine zE 4 (hK163 _ _ ?_)
       refine W.cond (decide (p150 < (r102.length : Int))) (by kernel_rfl) (fun h164 => ?_) (fun h164 => ?_)
       ·
        obtain ⟨h164p, hm⟩ := iY hm h164
        refine W.skip ?_
        refine hK162 _ _ ?_
        refine W.seq fun K165 hK165 => ?_
        refine W.block ?_
        refine W.sr fun K166 hK166 => ?_
        refine zE 1 (hK166 _ _ ?_)
        refine W.block ?_
        refine W.loop_iter (G := Int) (σ := Int) (fun | p167 => p167) (fun | p167, s_, w_ => (∃ us, s_ = slots 134 [(1, (.slice sa ss.length sc)), (5, (.pointer (some ⟨b19, 0, none⟩))), (7, (.int .i64 p48)), (8, (.pointer (some ⟨b60, 0, none⟩))), (11, (.pointer (some ⟨b75, 0, none⟩))), (13, (.slice a82 r84.length c83)), (15, (.slice a100 r102.length c101)), (16, (.int .i64 p150)), (17, (.int .i64 p167))] us) ∧ St B w [] w_ [blk b19 (.cells [(.int .i64 1), (.int .i64 (2 + 1 % 20)), (.int .i64 (2 + m_ % 60))].toArray 23 (0, 0)), viewA (ptr b60) q46 l96, blk b75 (.cells [(.pointer (some ⟨b60, 0, none⟩)), (.int .i64 1), (.int .i64 (2 + 1 % 20)), (.int .i64 (2 + m_ % 60)), (.int .i64 (2 - p48.tmod 2))].toArray 85 (0, 0)), kInt.row a82 c83 r84, kInt.row a100 c101 r102, blk b68 (.cells [(.pointer (some ⟨b60, 0, none⟩)), (.int .i64 1), (.int .i64 (2 + 1 % 20)), (.int .i64 (2 + m_ % 60)), (.int .i64 (1 + p48.tmod 2))].toArray 85 (0, 0)), kU64.row m44 m45 q46]) 0 ⟨slots_intro _ (by kernel_rfl), hs154⟩ hm ?_
        rintro k168 ih169 p167 _ w170 ⟨⟨us, rfl⟩, hs171⟩ hm
        replace hm : blocksapart_B2 r84 r102 k151 p150 k168 p167 = some true := hm
        unfold blocksapart_B2 at hm
        refine W.seq fun K172 hK172 => ?_
        refine W.sr fun K173 hK173 => ?_
        refine zE 4 (hK173 _ _ ?_)
        refine W.cond (decide (p167 < (r84.length : Int))) (by kernel_rfl) (fun h174 => ?_) (fun h174 => ?_)
        ·
         obtain ⟨h174p, hm⟩ := iY hm h174
         refine W.skip ?_
         refine hK172 _ _ ?_
         refine W.seq fun K175 hK175 => ?_
         refine W.block ?_
         refine W.seq fun K176 hK176 => ?_
         have hs177 := hs171.drew
         refine W.regionD [(0, 0), (0, 0), (3, 3), (4, 4), (0, 0), (0, 0), (48, 48), (64, 64), (136, 136)] (fun w_ => St B w [] w_ [blk b19 (.cells [(.int .i64 1), (.int .i64 (2 + 1 % 20)), (.int .i64 (2 + m_ % 60))].toArray 23 (0, 0)), viewA (ptr b60) q46 l96, blk b75 (.cells [(.pointer (some ⟨b60, 0, none⟩)), (.int .i64 1), (.int .i64 (2 + 1 % 20)), (.int .i64 (2 + m_ % 60)), (.int .i64 (2 - p48.tmod 2))].toArray 85 (0, 0)), kInt.row a82 c83 r84, kInt.row a100 c101 r102, blk b68 (.cells [(.pointer (some ⟨b60, 0, none⟩)), (.int .i64 1), (.int .i64 (2 + 1 % 20)), (.int .i64 (2 + m_ % 60)), (.int .i64 (1 + p48.tmod 2))].toArray 85 (0, 0)), kU64.row m44 m45 q46]) (by kernel_rfl) hs177 ?_
         refine any_val (v := (.slice a100 r102.length c101)) (v' := (.slice a100 r102.length c101)) 0 (by kernel_rfl) (fun _ => by kernel_rfl) rfl hs177 ?_
         refine any_val (v := (.int .i64 p150)) (v' := (.int .i64 p150)) 1 (by kernel_rfl) (fun _ => by kernel_rfl) rfl hs177 ?_
         obtain ⟨h179, hm⟩ := need_some hm
         have hk178 := lt_toNat h179
         refine any_R 2 (by kernel_rfl) (fun _ hS_ => runs_index (a := a100) (n := r102.length) (z := p150) (size := 1) p150.toNat (nat_of h179.1) hk178 (kInt.addr (St.kcells kInt hs177 4 rfl) hk178) (by kernel_rfl)) hs177 ?_
         refine any_R 3 (by kernel_rfl) (fun _ hS_ => runs_load (ad := ((adr a100 (p150.toNat * 1)).add 0)) (v := (.int .i64 (r102.getD p150.toNat 0))) (by kernel_rfl) (kInt.at (St.kcells kInt hS_ 4 rfl) hk178 0 0 rfl)) hs177 ?_
         refine any_val (v := (.slice a82 r84.length c83)) (v' := (.slice a82 r84.length c83)) 4 (by kernel_rfl) (fun _ => by kernel_rfl) rfl hs177 ?_
         refine any_val (v := (.int .i64 p167)) (v' := (.int .i64 p167)) 5 (by kernel_rfl) (fun _ => by kernel_rfl) rfl hs177 ?_
         obtain ⟨h181, hm⟩ := need_some hm
         have hk180 := lt_toNat h181
         refine any_R 6 (by kernel_rfl) (fun _ hS_ => runs_index (a := a82) (n := r84.length) (z := p167) (size := 1) p167.toNat (nat_of h181.1) hk180 (kInt.addr (St.kcells kInt hs177 3 rfl) hk180) (by kernel_rfl)) hs177 ?_
         refine any_R 7 (by kernel_rfl) (fun _ hS_ => runs_load (ad := ((adr a82 (p167.toNat * 1)).add 0)) (v := (.int .i64 (r84.getD p167.toNat 0))) (by kernel_rfl) (kInt.at (St.kcells kInt hS_ 3 rfl) hk180 0 0 rfl)) hs177 ?_
         refine any_val (v := (.bool (decide ((r102.getD p150.toNat 0) = (r84.getD p167.toNat 0))))) (v' := (.bool (decide ((r102.getD p150.toNat 0) = (r84.getD p167.toNat 0))))) 8 (by kernel_rfl) (fun _ => by kernel_rfl) rfl hs177 ?_
         refine any_done (by kernel_rfl) ?_
         refine hK176 _ _ ?_
         refine W.cond (decide ((r102.getD p150.toNat 0) = (r84.getD p167.toNat 0))) (by kernel_rfl) (fun h182 => ?_) (fun h182 => ?_)
         ·
          obtain ⟨h182p, hm⟩ := iY hm h182
          refine W.sr fun K183 hK183 => ?_
          refine zE 1 (hK183 _ _ ?_)
          refine W.ret (ret_block (ret_seq (ret_seq (ret_block (ret_block (ret_seq (ret_seq (ret_block (ret_seq (ret_block (ret_seq (ret_seq (ret_block (ret_seq ?_))))))))))))))
          have hs184 := St.tk0 hs177
          refine ret_of (.bool false) (by kernel_rfl) ⟨_, ⟨congrArg Value.bool (some_inj hm), rfl⟩, hs184⟩
         ·
          obtain ⟨h182p, hm⟩ := iN hm h182
          refine W.skip ?_
          refine normal_block ?_
          refine hK175 _ _ ?_
          refine W.region ?_
          refine zR 1 ?_
          obtain ⟨h185, hm⟩ := need_some hm
          refine zI _ (wrap_i64 h185.1 h185.2) ?_
          refine zE 1 ?_
          refine loopAt_next ?_
          exact ih169 (p167 + 1) _ _ ⟨slots_intro _ (by kernel_rfl), hs177⟩ hm
        ·
         obtain ⟨h174p, hm⟩ := iN hm h174
         refine W.exit (exit_seq (exit_seq (exit_here ?_)))
         refine normal_block ?_
         refine hK165 _ _ ?_
         refine W.region ?_
         refine zR 1 ?_
         obtain ⟨h186, hm⟩ := need_some hm
         refine zI _ (wrap_i64 h186.1 h186.2) ?_
         refine zE 1 ?_
         refine loopAt_next ?_
         exact ih152 (p150 + 1) _ _ ⟨slots_intro _ (by kernel_rfl), hs171⟩ hm
       ·
        obtain ⟨h164p, hm⟩ := iN hm h164
        refine W.exit (exit_seq (exit_seq (exit_here ?_)))
        exact ⟨slots_intro _ (by kernel_rfl), hs154, hm⟩
     ·
      refine W.sr fun K187 hK187 => ?_
      refine zR 2 ?_
      obtain ⟨h189, hm⟩ := need_some hm
      have hk188 := lt_toNat h189
      refine ops_R (runs_index (a := sa) (n := ss.length) (z := p48) (size := 3) p48.toNat (nat_of h189.1) hk188 (kSt13.addr (hs90.oldCells hst) hk188) (by kernel_rfl)) ?_
      refine zR 1 ?_
      refine zL ((adr sa (p48.toNat * 3)).add 0) (.int .u8 ((ss.getD p48.toNat dSt13).c0)) (kSt13.at (hs90.oldCells hst) hk188 dSt13 0 rfl) ?_
      refine zE 2 (hK187 _ _ ?_)
      refine W.cond (decide (((ss.getD p48.toNat dSt13).c0).tmod 3 = 2)) (by kernel_rfl) (fun h190 => ?_) (fun h190 => ?_)
      ·
       obtain ⟨h190p, hm⟩ := iY hm h190
       refine W.region ?_
       refine zR 2 ?_
       obtain ⟨r191, h192, hm⟩ := bind_some hm
       have hs193 := St.f2 hs90
       have hs194 := St.f3 hs193
       refine zC22 hs194 (bDrop_walk (mb := b68) (vb := b60) (k_ := r94) (img := q46) (l := []) (gw := 1) (gi := (2 + 1 % 20)) (gb := (2 + m_ % 60)) (n_ := (1 + p48.tmod 2)) (hm := h192) B _) fun w195 hs197 => ?_
       refine zD ?_
       have hs198 := St.f5 hs197
       have hs199 := St.f3 hs198
       have hs200 := St.f4 hs199
       have hs201 := St.f3 hs200
       have hs202 := St.f4 hs201
       have hs203 := St.f5 hs202
       exact ⟨r191.2, slots_intro _ (by kernel_rfl), hs203, hm⟩
      ·
       obtain ⟨h190p, hm⟩ := iN hm h190
       refine W.region ?_
       refine zR 2 ?_
       obtain ⟨r204, h205, hm⟩ := bind_some hm
       have hs206 := St.f2 hs90
       have hs207 := St.f3 hs206
       refine zC22 hs207 (bTake_walk (mb := b68) (vb := b60) (k_ := r94) (img := q46) (l := []) (gw := 1) (gi := (2 + 1 % 20)) (gb := (2 + m_ % 60)) (n_ := (1 + p48.tmod 2)) (hG := hG) (hT := (hs90.oldCells hT)) (hm := h205) B _) fun w208 hs210 => ?_
       refine zD ?_
       have hs211 := St.f5 hs210
       have hs212 := St.f3 hs211
       have hs213 := St.f4 hs212
       have hs214 := St.f3 hs213
       have hs215 := St.f4 hs214
       have hs216 := St.f5 hs215
       exact ⟨r204.2.2, slots_intro _ (by kernel_rfl), hs216, hm⟩
    ·
     obtain ⟨h74p, hm⟩ := iN hm h74
     refine zC00 hs71 (bof_err (gw := 1) (gi := (2 + 1 % 20)) (gb := (2 + m_ % 60)) (n_ := (2 - p48.tmod 2)) (hv := (hs71.entAt 1 rfl viewA_at)) (hN := h74p) B _) fun w217 hs219 => ?_
     refine zR 5 ?_
     obtain ⟨r220, h221, hm⟩ := bind_some hm
     replace h221 := some_inj h221
     refine ops_set 12 (v := .int .i64 r220) (Eq.trans (by kernel_rfl) (congrArg (Value.int .i64) h221)) ?_
     refine zD (hK72 _ _ ?_)
     refine W.seq fun K222 hK222 => ?_
     refine W.sr fun K223 hK223 => ?_
     refine zE 18 (hK223 _ _ ?_)
     refine W.cond_true true (by kernel_rfl) rfl ?_
     refine W.sr fun K224 hK224 => ?_
     refine zE 1 (hK224 _ _ ?_)
     refine W.ret (ret_seq (ret_block (ret_seq (ret_seq (ret_block (ret_seq ?_))))))
     have hs225 := St.tk0 hs219
     refine ret_of (.bool false) (by kernel_rfl) ⟨_, ⟨congrArg Value.bool (some_inj hm), rfl⟩, hs225⟩
   ·
    obtain ⟨h67p, hm⟩ := iN hm h67
    refine zC00 hs64 (bof_err (gw := 1) (gi := (2 + 1 % 20)) (gb := (2 + m_ % 60)) (n_ := (1 + p48.tmod 2)) (hv := (hs64.entAt 0 rfl viewA_at)) (hN := h67p) B _) fun w226 hs228 => ?_
    refine zR 5 ?_
    obtain ⟨r229, h230, hm⟩ := bind_some hm
    replace h230 := some_inj h230
    refine ops_set 10 (v := .int .i64 r229) (Eq.trans (by kernel_rfl) (congrArg (Value.int .i64) h230)) ?_
    refine zD (hK65 _ _ ?_)
    refine W.sr fun K231 hK231 => ?_
    refine zR 1 ?_
    refine ops_R (runs_loadAgg (ad := ⟨b19, 0, none⟩) (cs := [(.int .i64 1), (.int .i64 (2 + 1 % 20)), (.int .i64 (2 + m_ % 60))]) (by kernel_rfl) (cells_sub (hs228.heapAt 1 rfl) rfl)) ?_
    refine zR 2 ?_
    obtain ⟨h232, hm⟩ := need_some hm
    refine zI _ (wrap_i64 h232.1 h232.2) ?_
    rcases Bool.eq_false_or_eq_true (decide ((igetM q46 ([]) 1 (2 + 1 % 20) (2 + m_ % 60) (2 - p48.tmod 2)).2 = 0)) with h233 | h233
    ·
     obtain ⟨h233p, hm⟩ := iY hm h233
     refine ops_call0 hs228 (by kernel_rfl) (bof_ok (gw := 1) (gi := (2 + 1 % 20)) (gb := (2 + m_ % 60)) (n_ := (2 - p48.tmod 2)) (hv := (hs228.entAt 0 rfl viewA_at)) (hP := h233p) B _) ?_
     rintro _ _ w235 ⟨b234, rfl, rfl⟩ hs236
     have hs237 := St.ap1 hs236
     refine zE 5 (hK231 _ _ ?_)
     refine W.seq fun K238 hK238 => ?_
     refine W.sr fun K239 hK239 => ?_
     refine zE 18 (hK239 _ _ ?_)
     refine W.cond_true true (by kernel_rfl) rfl ?_
     refine W.sr fun K240 hK240 => ?_
     refine zE 1 (hK240 _ _ ?_)
     refine W.ret (ret_seq (ret_block (ret_seq (ret_seq (ret_block (ret_seq ?_))))))
     have hs241 := St.tk0 hs237
     refine ret_of (.bool false) (by kernel_rfl) ⟨_, ⟨congrArg Value.bool (some_inj hm), rfl⟩, hs241⟩
    ·
     obtain ⟨h233p, hm⟩ := iN hm h233
     refine zC00 hs228 (bof_err (gw := 1) (gi := (2 + 1 % 20)) (gb := (2 + m_ % 60)) (n_ := (2 - p48.tmod 2)) (hv := (hs228.entAt 0 rfl viewA_at)) (hN := h233p) B _) fun w242 hs244 => ?_
     refine zR 5 ?_
     obtain ⟨r245, h246, hm⟩ := bind_some hm
     replace h246 := some_inj h246
     refine ops_set 12 (v := .int .i64 r245) (Eq.trans (by kernel_rfl) (congrArg (Value.int .i64) h246)) ?_
     refine zD (hK231 _ _ ?_)
     refine W.seq fun K247 hK247 => ?_
     refine W.sr fun K248 hK248 => ?_
     refine zE 18 (hK248 _ _ ?_)
     refine W.cond_true true (by kernel_rfl) rfl ?_
     refine W.sr fun K249 hK249 => ?_
     refine zE 1 (hK249 _ _ ?_)
     refine W.ret (ret_seq (ret_block (ret_seq (ret_seq (ret_block (ret_seq ?_))))))
     have hs250 := St.tk0 hs244
     refine ret_of (.bool false) (by kernel_rfl) ⟨_, ⟨congrArg Value.bool (some_inj hm), rfl⟩, hs250⟩
  ·
   obtain ⟨h56p, hm⟩ := iN hm h56
   refine W.exit (exit_seq (exit_seq (exit_here ?_)))
   refine hK42 _ _ ?_
   refine W.sr fun K251 hK251 => ?_
   obtain ⟨r252, h253, hm⟩ := bind_some hm
   refine zC00 hs52 (works13_walk (hG := hG) (hT := (hs52.oldCells hT)) (hm := h253) B _) fun w254 hs256 => ?_
   refine zE 1 (hK251 _ _ ?_)
   refine W.ret ?_
   have hs257 := St.tk0 hs256
   refine ret_of (.bool r252) (by kernel_rfl) ⟨_, ⟨congrArg Value.bool (some_inj hm), rfl⟩, hs257⟩

end Go.Proofs.YtmmclabkkigiaaaDoor

namespace Go.Proofs.YtmmclabkkigiaaaDoor
open Go Go.RowKit
set_option linter.unusedVariables false
set_option linter.unusedSimpArgs false

def Two (gb : Int) (q : List Int) (n : Int) : Prop := ∃ h1 h2 f1 c1 f2 c2, Mp 3 gb q [] n (OwnP f2 c2) h1 f1 c1 ∧ Mp 3 gb q [] (3 - n) (OwnP f1 c1) h2 f2 c2
theorem Two.swap {gb : Int} {q : List Int} {n : Int} (h : Two gb q n) : Two gb q (3 - n) := by
  obtain ⟨h1, h2, f1, c1, f2, c2, a, b⟩ := h
  exact ⟨h2, h1, f2, c2, f1, c1, b, by rw [show 3 - (3 - n) = n by omega]; exact a⟩
theorem getD_setN {l : List Int} {i k : Nat} {x : Int} (hi : i < l.length) : (l.set i x).getD k 0 = if k = i then x else l.getD k 0 := by
  rw [List.getD_eq_getElem?_getD, List.getD_eq_getElem?_getD, List.getElem?_set]
  by_cases h : i = k
  · subst h
    rw [if_pos rfl, if_pos rfl, if_pos hi]; rfl
  · rw [if_neg h, if_neg (fun e => h e.symm)]
theorem two_start {gb : Int} (hM : May 1 3 gb) : Two gb ((fmtW 1 3 gb).set 520 1) 1 := by
  have hF := Mp.fmt hM
  have hm_ := may_out hM
  have hl := hF.dk.len
  have hll : ((fmtW 1 3 gb).set 520 1).length = (fmtW 1 3 gb).length := List.length_set
  have hg : ∀ z : Int, 0 ≤ z → z < 536 + 8 * gb → vget ((fmtW 1 3 gb).set 520 1) [] z = if z = 520 then 1 else vget (fmtW 1 3 gb) [] z := fun z h0 h1 => by
    obtain ⟨k, rfl⟩ := Int.eq_ofNat_of_zero_le h0
    rw [vget_nil (by omega), vget_nil (by omega), getD_setN (by omega)]
    by_cases e : k = 520
    · rw [if_pos e, if_pos (by omega)]
    · rw [if_neg e, if_neg (by omega)]
  have hw : ∀ z : Int, 520 ≤ z → z < 536 → vget (fmtW 1 3 gb) [] z = 0 := fun z h0 h1 => by
    have hwd := words_may hM
    rw [fmt_vget hM (by omega)]
    simp only [Int.mul_one, Int.reduceAdd, Int.reduceMul]
    rw [if_neg (by omega), if_neg (by omega), if_neg (by omega), if_neg (by omega), if_neg (by omega), if_neg (by omega), if_neg (by omega), if_neg (by omega)]
  have hdk : Dk 3 gb ((fmtW 1 3 gb).set 520 1) [] := Dk.start hM (by omega) fun x hx => by
    rcases List.mem_or_eq_of_mem_set hx with h | h
    · exact fmtW_u64 x h
    · rw [h]; unfold U64; omega
  have hb : ∀ b : Nat, b < 512 → mbits ((fmtW 1 3 gb).set 520 1) [] 480 b = mbits (fmtW 1 3 gb) [] 480 b := fun b hb => mbits_congr (by rw [hg _ (by omega) (by omega), if_neg (by omega)])
  have hno : ∀ b : Nat, ¬ OwnP (fun _ => 0) 0 b := fun b x => by
    rcases x with ⟨x1, ⟨_, _, x2⟩ | x2⟩
    · have x3 : (0 : Int) = (b : Int) := x2
      omega
    · omega
  refine ⟨⟨2, 1, 0, 0, 0⟩, ⟨1, 0, 0, 0, 0⟩, fun _ => 0, 0, fun _ => 0, 0, ⟨hdk, by omega, hF.hd, ?_, ?_, ?_, ?_, ?_, fun k hk => ?_, ?_, fun k _ _ => by rw [if_pos rfl], hF.rf, hF.rc, hF.inj, hF.fc, fun b hbb => ?_, fun b x => absurd x (hno b)⟩,
    ⟨hdk, by omega, ⟨show (0 : Int) < 3 by omega, ⟨show (0 : Int) ≤ 65536 by omega, show (0 : Int) ≤ 16 by omega, show (0 : Int) ≤ 768 by omega⟩, .inl ⟨rfl, rfl⟩⟩, ?_, ?_, ?_, ?_, ?_, fun k hk => ?_, ?_, fun k _ _ => by rw [if_pos rfl], hF.rf, hF.rc, hF.inj, hF.fc, fun b hbb => ?_, fun b x => absurd x (hno b)⟩⟩
  · rw [hg _ (by omega) (by omega), if_neg (by omega)]; exact hF.w0
  · rw [hg _ (by omega) (by omega), if_neg (by omega)]; exact hF.w1
  · rw [hg _ (by omega) (by omega), if_neg (by omega)]; exact hF.w2
  · rw [hg _ (by omega) (by omega), if_neg (by omega)]; exact hF.w3
  · rw [hg _ (by omega) (by omega), if_neg (by omega)]; exact hF.w9
  · rw [hg _ (by omega) (by omega), if_neg (by omega)]; exact hF.wd k hk
  · rw [hg _ (by omega) (by omega), if_neg (by omega)]; exact hF.w8
  · rw [hb b hbb, hF.bits b hbb]
    constructor
    · rintro (x | x | x | x)
      · exact .inl x
      · exact .inr (.inl x)
      · exact .inr (.inr (.inl x))
      · exact x.elim
    · rintro (x | x | x | x)
      · exact .inl x
      · exact .inr (.inl x)
      · exact .inr (.inr (.inl x))
      · exact absurd x (hno b)
  · rw [hg _ (by omega) (by omega), if_pos (by omega)]
  · rw [hg _ (by omega) (by omega), if_neg (by omega), hw _ (by omega) (by omega)]
  · rw [hg _ (by omega) (by omega), if_neg (by omega), hw _ (by omega) (by omega)]
  · rw [hg _ (by omega) (by omega), if_neg (by omega), hw _ (by omega) (by omega)]
  · rw [hg _ (by omega) (by omega), if_neg (by omega), hw _ (by omega) (by omega)]
  · rw [hg _ (by omega) (by omega), if_neg (by omega), hw _ (by omega) (by omega)]
  · rw [hg _ (by omega) (by omega), if_neg (by omega), hw _ (by omega) (by omega)]
  · rw [hb b hbb, hF.bits b hbb]
    constructor
    · rintro (x | x | x | x)
      · exact .inl x
      · exact .inr (.inl x)
      · exact .inr (.inr (.inl x))
      · exact x.elim
    · rintro (x | x | x | x)
      · exact .inl x
      · exact .inr (.inl x)
      · exact .inr (.inr (.inl x))
      · exact absurd x (hno b)
theorem blocksapart_law {m_ : Int} {ss : List TSt13} (hm : 0 ≤ m_ ∧ m_ ≤ 255) (hs : ∀ x ∈ ss, good_St13 x) : blocksapart_M m_ ss = some true := by
  refine Ok.true ?_
  unfold blocksapart_M
  refine Ok.ite (fun _ => works13_stop) fun h40 => ?_
  have e2 : (2 : Int) + 1 % 20 = 3 := rfl
  obtain ⟨gb, hgb⟩ : ∃ gb, gb = 2 + m_ % 60 := ⟨_, rfl⟩
  have hM : May 1 3 gb := by unfold May; omega
  have hl := (Mp.fmt hM).dk.len
  rw [e2, ← hgb, show placeOf 8 1 3 gb 2 = 520 from (place8_in hM (by omega)).trans rfl]
  refine Ok.need (by omega) (Ok.need (by omega) (Ok.name fun r hr => ?_))
  subst hr
  refine Ok.need (by omega) ?_
  rw [show (520 : Int).toNat = 520 from rfl]
  have hll : ((fmtW 1 3 gb).set 520 1).length = (fmtW 1 3 gb).length := List.length_set
  refine Ok.iter (fun s => Two gb s.1 1 ∧ s.2.1 = s.1.length ∧ 0 ≤ s.2.2) (fun s => ((ss.length : Int) - s.2.2).toNat) ?_ _ _ ⟨two_start hM, by simp only; omega, by simp⟩ (fuel_lt (by simp only; omega))
  rintro k ⟨q, nl, p⟩ ⟨hT, hn, h1⟩ ih
  simp only at hT hn h1 ih
  subst hn
  unfold blocksapart_B0
  simp only
  rw [e2, ← hgb]
  refine Ok.ite (fun hp => ?_) (fun _ => works13_stop)
  have ht2 := Int.tmod_eq_emod_of_nonneg (a := p) (b := 2) h1
  obtain ⟨n, hn⟩ : ∃ n, n = 1 + p.tmod 2 := ⟨_, rfl⟩
  have hTn : Two gb q n := by
    by_cases e : p.tmod 2 = 0
    · rw [show n = 1 by omega]; exact hT
    · rw [show n = 3 - 1 by omega]; exact hT.swap
  rw [show 2 - p.tmod 2 = 3 - n by omega, ← hn]
  obtain ⟨hd1, hd2, f1, c1, f2, c2, a, b⟩ := hTn
  have hql := a.dk.len
  have hw := a.dk.words
  refine Ok.need (by trivial) (Ok.need (by omega) (Ok.need (by omega) (Ok.yes (by rw [a.iget]) (Ok.need (by omega) (Ok.yes (by rw [b.iget]) ?_)))))
  rw [b.list]
  simp only [Option.bind]
  refine Ok.need (by omega) ?_
  have hmx : 0 ≤ mx (ss.getD p.toNat dSt13).c1 0 := by unfold mx; split <;> omega
  have hk12 := Int.tmod_eq_emod_of_nonneg (a := mx (ss.getD p.toNat dSt13).c1 0) (b := 12) hmx
  obtain ⟨kk, hkk⟩ := Int.eq_ofNat_of_zero_le (show 0 ≤ (mx (ss.getD p.toNat dSt13).c1 0).tmod 12 by omega)
  have hk : kk < 12 := by omega
  rw [hkk]
  refine Ok.need (by omega) ?_
  have hnn : (n = 1 ∨ n = 2) := by omega
  have hrc1 := a.rc
  have hrc2 := b.rc
  have c2used : c2 ≠ 0 → mbits q [] 480 c2.toNat = true := fun hc => by
    have hg := a.dk.g
    exact (a.bits _ (by omega)).2 (.inr (.inr (.inr ⟨by omega, .inr (by omega)⟩)))
  have hc12 : c1 ≠ 0 → c2 ≠ 0 → c1 ≠ c2 := fun h1 h2 e => by
    have ho : OwnP f2 c2 c2.toNat := ⟨by omega, .inr (by omega)⟩
    exact (a.od _ ho).2.2.2 (by omega)
  have J2 : ∀ (m : List (Int × Int)) (f' : Nat → Int) (c' : Int), Mp 3 gb q m n (OwnP f2 c2) hd1 f' c' → (∀ z, (488 + 16 * (3 - n) ≤ z ∧ z ≤ 497 + 16 * (3 - n)) ∨ (c2 ≠ 0 ∧ 536 + 8 * c2 ≤ z ∧ z < 536 + 8 * c2 + 8) → vget q m z = vget q [] z) →
      Ok (· = true) (blocksapart_J2 m_ k q p (ownF f2 c2) m) := by
    intro m f' c' a' hz
    have b' := b.other a' (fun z hz' => hz z (by omega))
    unfold blocksapart_J2
    rw [e2, ← hgb, ← hn, a'.list]
    simp only [Option.bind]
    have hlen1 : (ownF f2 c2).length ≤ 1000000 := by
      have hb := b'.nodup
      have hin := b'.ownIn
      have hg := b'.dk.g
      have := nodup_len gb.toNat (ownF f2 c2) hb (fun x hx => by have := hin x hx; omega)
      omega
    have J3 : Ok (· = true) (blocksapart_J3 m_ k q p (ownF f2 c2) m) := by
      unfold blocksapart_J3
      rw [e2, ← hgb, show 2 - p.tmod 2 = 3 - n by omega, b'.list]
      simp only [Option.bind]
      rw [sameints_eq _ _ hlen1 hlen1]
      have hvl := vflat_length q m
      have hfin : Two gb (vflat q m) n := ⟨hd1, hd2, f', c', f2, c2, a'.flat, b'.flat⟩
      refine Ok.yes (by simp) (Ok.yes (by omega) (Ok.need (by omega) (ih _ ⟨?_, by trivial, by simp only; omega⟩ (by simp only; omega))))
      rcases hnn with e | e
      · rw [e] at hfin; exact hfin
      · rw [e] at hfin
        exact hfin.swap
    have hdis : ∀ x ∈ ownF f' c', ∀ y ∈ ownF f2 c2, x ≠ y := by
      intro x hx y hy e
      subst e
      obtain ⟨x1, x2⟩ := mem_ownF.1 hx
      obtain ⟨_, y2⟩ := mem_ownF.1 hy
      have hin := a'.ownIn x hx
      have ho : OwnP f2 c2 x.toNat := ⟨by omega, by
        rcases y2 with ⟨i, i1, i2⟩ | y2
        · exact .inl ⟨i, i1, by omega⟩
        · exact .inr (by omega)⟩
      obtain ⟨_, _, o3, o4⟩ := a'.od _ ho
      rcases x2 with ⟨i, i1, i2⟩ | x2
      · exact o3 i i1 (by omega)
      · exact o4 (by omega)
    have hlen2 : (ownF f' c').length ≤ 1000000 := by
      have hb := a'.nodup
      have hin := a'.ownIn
      have hg := a'.dk.g
      have := nodup_len gb.toNat (ownF f' c') hb (fun x hx => by have := hin x hx; omega)
      omega
    generalize ownF f' c' = xs at hdis hlen2 ⊢
    generalize ownF f2 c2 = ys at hdis J3 hlen1 ⊢
    have getm : ∀ (zs : List Int) (j : Nat), j < zs.length → zs.getD j 0 ∈ zs := fun zs j hj => by simp [List.getD, hj]
    refine Ok.iter (fun z => 0 ≤ z) (fun z => ((xs.length : Int) - z).toNat) ?_ _ _ (by omega) ?_
    · intro k3 z z1 ih3
      unfold blocksapart_B1
      refine Ok.ite (fun hz1 => ?_) (fun _ => J3)
      refine Ok.iter (fun y => 0 ≤ y) (fun y => ((ys.length : Int) - y).toNat) ?_ _ _ (by omega) (fuel_lt (by omega))
      intro k4 y y1 ih4
      unfold blocksapart_B2
      refine Ok.ite (fun hy1 => ?_) (fun _ => Ok.need (by omega) (ih3 _ (by omega) (by omega)))
      exact Ok.need (by omega) (Ok.need (by omega) (Ok.no (hdis _ (getm xs _ (by omega)) _ (getm ys _ (by omega))) (Ok.need (by omega) (ih4 _ (by omega) (by omega)))))
    · exact fuel_lt (by omega)
  refine Ok.ite (fun _ => ?_) fun _ => ?_
  · obtain ⟨m, c', d1, d2, d3, d4, d5, d6⟩ := a.drop hk (by simp)
    rw [d1]
    simp only
    refine J2 m _ c' d3 fun z hz => ?_
    by_cases h0 : f1 kk = 0
    · have hD : bDrop_M q [] 1 3 gb n (kk : Int) = some (0, []) := by
        unfold bDrop_M
        rw [a.at hk]
        simp only [Option.bind, if_true]
        rw [if_pos h0]
      rw [hD] at d1
      rw [← (Prod.mk.inj (Option.some.inj d1)).2]
    · have hh := a.hasWord hk h0
      refine d6 z (by omega) ?_ (by omega)
      unfold wordAt
      by_cases h4 : kk < 4
      · rw [if_pos h4]; omega
      · rw [if_neg h4]
        rcases hz with hz | ⟨hz0, hz⟩
        · omega
        · have hcc := hc12 (by omega) hz0
          omega
  · rcases a.take hk (by simp) with ⟨a1, a2⟩ | ⟨a1, a3, a2⟩ | ⟨a1, a3, m, b', c', a2, a4, a5, a6, a7, a8, a9, a10⟩
    · rw [a2]
      exact J2 [] f1 c1 a fun _ _ => rfl
    · rw [a2]
      exact J2 [] f1 c1 a fun _ _ => rfl
    · rw [a2]
      simp only
      refine J2 m _ c' a5 fun z hz => a10 z (by omega) (by omega) ?_ ?_
      · intro hzb
        rcases hz with hz | ⟨hz0, hz⟩
        · omega
        · have := c2used hz0
          rw [show c2 = b' by omega, a7] at this
          cases this
      · rintro ⟨hk4, hzc⟩
        rcases hz with hz | ⟨hz0, hz⟩
        · have := a5.rc.1
          rcases a8 with ⟨e, hor⟩ | ⟨_, _, e3, _⟩ <;> omega
        · rcases a8 with ⟨e, hor⟩ | ⟨e1, _, e3, e4⟩
          · have hcc := hc12 (by omega) hz0
            omega
          · have := c2used hz0
            rw [show c2 = c' by omega, e4] at this
            cases this
end Go.Proofs.YtmmclabkkigiaaaDoor
