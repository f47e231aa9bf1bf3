/- Texts, one behind the other: ALbBa, PLbBa. -/
import Derived.Test.YtmmclabkkigiaaaDoorQBN5
set_option linter.unusedVariables false
set_option linter.unusedSimpArgs false
set_option linter.unusedVariables false
set_option maxRecDepth 20000
set_option maxHeartbeats 4000000
namespace Go.Proofs.YtmmclabkkigiaaaDoor
open Go Go.RowKit
set_option linter.unusedSimpArgs false
set_option linter.unusedVariables false

def blocksback_B2 (m_ : Int) (k45 : ((List Int) × Int) → Option (Bool)) (p44 : Int) (q57 : List Int) (r74 : Int × List (Int × Int)) (k103 : Int → Option (Bool)) (p102 : Int) : Option (Bool) :=
 if p102 < (placeOf 9 1 (2 + 0 % 20) (2 + m_ % 60) 0) then (need (0 ≤ p102 ∧ p102 < (((vflat q57 r74.2).length) : Int)) <|
need (0 ≤ p102 ∧ p102 < (((fmtW 1 (2 + 0 % 20) (2 + m_ % 60)).length) : Int)) <|
if ((vflat q57 r74.2).getD p102.toNat 0) = ((fmtW 1 (2 + 0 % 20) (2 + m_ % 60)).getD p102.toNat 0) then (need (-9223372036854775808 ≤ (p102 + 1) ∧ (p102 + 1) ≤ 9223372036854775807) <|
k103 (p102 + 1)) else (some false)) else (need (-9223372036854775808 ≤ (p44 + 1) ∧ (p44 + 1) ≤ 9223372036854775807) <|
k45 ((vflat q57 r74.2), (p44 + 1)))

def blocksback_J2 (m_ : Int) (k45 : ((List Int) × Int) → Option (Bool)) (p44 : Int) (q57 : List Int) : Option (Bool) :=
 need (q57.length ≤ 17592186044415) <|
if (igetM q57 ([]) 1 (2 + 0 % 20) (2 + m_ % 60) 1).2 = 0 then ((bCut_M q57 ([]) 1 (2 + 0 % 20) (2 + m_ % 60) 1 0).bind fun r74 =>
if r74.1 = 0 then ((bList_M q57 r74.2 1 (2 + 0 % 20) (2 + m_ % 60) 1).bind fun r84 =>
if (r84.length : Int) = 0 then (if (((vflat q57 r74.2).length) : Int) = (((fmtW 1 (2 + 0 % 20) (2 + m_ % 60)).length) : Int) then (iter (fun k_ s_ => blocksback_B2 m_ k45 p44 q57 r74 k_ s_) FUEL 0) else (some false)) else (some false)) else (some false)) else ((some ((igetM q57 ([]) 1 (2 + 0 % 20) (2 + m_ % 60) 1).2)).bind fun r145 =>
some false)

def blocksback_J5 (m_ : Int) (k156 : ((List Int) × Int) → Option (Bool)) (q154 : List Int) (p155 : Int) (r182 : Int × Int × List (Int × Int)) : Option (Bool) :=
 if (((vflat q154 r182.2.2).length) : Int) = (((fmtW 1 (2 + 0 % 20) (2 + m_ % 60)).length) : Int) then (need (-9223372036854775808 ≤ (p155 + 1) ∧ (p155 + 1) ≤ 9223372036854775807) <|
k156 ((vflat q154 r182.2.2), (p155 + 1))) else (some false)

def blocksback_B1 (m_ : Int) (ks : List Int) (k45 : ((List Int) × Int) → Option (Bool)) (p44 : Int) (k156 : ((List Int) × Int) → Option (Bool)) (q154 : List Int) (p155 : Int) : Option (Bool) :=
 if p155 < (ks.length : Int) then (need (q154.length ≤ 17592186044415) <|
if (igetM q154 ([]) 1 (2 + 0 % 20) (2 + m_ % 60) 1).2 = 0 then (need (0 ≤ p155 ∧ p155 < (ks.length : Int)) <|
need (-9223372036854775808 ≤ (ks.getD p155.toNat 0) ∧ (ks.getD p155.toNat 0) ≤ 9223372036854775807) <|
(bTake_M q154 ([]) 1 (2 + 0 % 20) (2 + m_ % 60) 1 ((ks.getD p155.toNat 0).tmod 12)).bind fun r182 =>
if r182.2.1 = 0 then (blocksback_J5 m_ k156 q154 p155 r182) else (if r182.2.1 = 7 then (blocksback_J5 m_ k156 q154 p155 r182) else (some false))) else ((some ((igetM q154 ([]) 1 (2 + 0 % 20) (2 + m_ % 60) 1).2)).bind fun r224 =>
some false)) else (blocksback_J2 m_ k45 p44 q154)

def blocksback_B0 (m_ : Int) (ks : List Int) (k45 : ((List Int) × Int) → Option (Bool)) (q43 : List Int) (p44 : Int) : Option (Bool) :=
 if p44 < 2 then (iter (fun k_ s_ => blocksback_B1 m_ ks k45 p44 k_ s_.1 s_.2) FUEL (q43, 0)) else ((works13_M).bind fun r231 =>
some r231)

def blocksback_M (m_ : Int) (ks : List Int) : Option (Bool) :=
 if (ks.length : Int) > 30 then ((works13_M).bind fun r6 =>
some r6) else (need ((0 : Int) ≤ 0 ∧ (0 : Int) ≤ 255) <|
need ((0 : Int) ≤ m_ ∧ (m_ : Int) ≤ 255) <|
iter (fun k_ s_ => blocksback_B0 m_ ks k_ s_.1 s_.2) FUEL ((fmtW 1 (2 + 0 % 20) (2 + m_ % 60)), 0))

theorem blocksback_walk {m_ : Int} {ks : List Int} {ka : Option Addr} {kc : Nat}  (B : Nat) (w : World) (hB : w.heap.size = B) (hT : CellsAt (some ⟨0, 0, none⟩) tab8 w) (hk : CellsAt ka (kU8.cells ks) w) (hm : blocksback_M m_ ks = some true) : Spec Tryd.prog 5 #[(.int .u8 m_), (.slice ka ks.length kc)] B w [] (fun v H' => v = .bool true ∧ H' = []) := by
 refine spec_Q Tryd.func5 rfl fun hs => ?_
 unfold blocksback_M at hm
 have hG : 0 < B := by rw [← hB]; exact lt_of_cells hT (v := .int .u8 0) (by kernel_rfl)
 have hfl_ := fmtW_len 1 2 (2 + m_ % 60)
 have hwl_ := words_le 1 2 (2 + m_ % 60)
 refine W.sr fun K1 hK1 => ?_
 refine zE 1 (hK1 _ _ ?_)
 refine W.seq fun K2 hK2 => ?_
 refine W.sr fun K3 hK3 => ?_
 refine zE 3 (hK3 _ _ ?_)
 refine W.cond (decide ((ks.length : Int) > 30)) (by kernel_rfl) (fun h4 => ?_) (fun h4 => ?_)
 ·
  obtain ⟨h4p, hm⟩ := iY hm h4
  refine W.sr fun K5 hK5 => ?_
  obtain ⟨r6, h7, hm⟩ := bind_some hm
  refine zC00 hs (works13_walk (hG := hG) (hT := (hs.oldCells hT)) (hm := h7) B _) fun w8 hs10 => ?_
  refine zE 1 (hK5 _ _ ?_)
  refine W.ret (ret_seq ?_)
  refine ret_of (.bool r6) (by kernel_rfl) ⟨_, ⟨congrArg Value.bool (some_inj hm), rfl⟩, hs10⟩
 ·
  obtain ⟨h4p, hm⟩ := iN hm h4
  refine W.skip ?_
  refine hK2 _ _ ?_
  refine W.sr fun K11 hK11 => ?_
  refine zR 1 ?_
  obtain ⟨h12, hm⟩ := need_some hm
  obtain ⟨h13, hm⟩ := need_some hm
  refine zC00 hs (small_spec (x_ := 0) (y_ := m_) (hx := h12) (hy := h13) B _) fun w14 hs16 => ?_
  refine zN [(.int .i64 0), (.int .i64 0), (.int .i64 0)] 23 hs16 fun b19 w17 hs18 => ?_
  refine ops_store (off := 0) (cs := [(.int .i64 0), (.int .i64 0), (.int .i64 0)]) (vs := [(.int .i64 1), (.int .i64 (2 + 0 % 20)), (.int .i64 (2 + m_ % 60))]) hs18 (by kernel_rfl) (by simp) rfl (fun w20 hs21 => ?_)
  have hs22 : St B w [] w20 [blk b19 (.cells [(.int .i64 1), (.int .i64 (2 + 0 % 20)), (.int .i64 (2 + m_ % 60))].toArray 23 (0, 0))] := hs21
  refine zD (hK11 _ _ ?_)
  refine W.sr fun K23 hK23 => ?_
  refine ops_R (runs_loadAgg (ad := ⟨b19, 0, none⟩) (cs := [(.int .i64 1), (.int .i64 (2 + 0 % 20)), (.int .i64 (2 + m_ % 60))]) (by kernel_rfl) (cells_sub (hs22.heapAt 0 rfl) rfl)) ?_
  refine ops_call0 hs22 (by kernel_rfl) (format_spec (gw := 1) (gi := (2 + 0 % 20)) (gb := (2 + m_ % 60)) B _) ?_
  rintro _ _ w26 ⟨a24, c25, rfl, rfl⟩ hs27
  have hs28 := St.ap1 hs27
  refine zE 1 (hK23 _ _ ?_)
  refine W.sr fun K29 hK29 => ?_
  refine ops_new (fun b => .slice (some ⟨b, 0, none⟩) 0 0) (.cells [].toArray 43 (0, 0)) hs28 (by kernel_rfl) (fun b32 w30 hs31 => ?_)
  refine zR 1 ?_
  have hs33 : St B w [] w30 [kU64.row (some ⟨b32, 0, none⟩) 0 ([]), kU64.row a24 c25 (fmtW 1 (2 + 0 % 20) (2 + m_ % 60)), blk b19 (.cells [(.int .i64 1), (.int .i64 (2 + 0 % 20)), (.int .i64 (2 + m_ % 60))].toArray 23 (0, 0))] := St.kblk kU64 [] hs31 rfl rfl (by simp only [List.length_cons, List.length_nil]; decide)
  refine ops_appendK kU64 (bytes := 8) (a' := a24) (c' := c25) (l := []) (m := (fmtW 1 (2 + 0 % 20) (2 + m_ % 60))) hs33 (by kernel_rfl) (St.capnil kU64 hs33 1 rfl) (St.kcells kU64 hs33 1 rfl) (by (unfold maxLen; try simp) <;> omega) (by (try simp) <;> omega) (fun a34 c35 w36 hs37 => ?_)
  have hs38 : St B w [] w36 [kU64.row a34 c35 (fmtW 1 (2 + 0 % 20) (2 + m_ % 60)), kU64.row a24 c25 (fmtW 1 (2 + 0 % 20) (2 + m_ % 60)), blk b19 (.cells [(.int .i64 1), (.int .i64 (2 + 0 % 20)), (.int .i64 (2 + m_ % 60))].toArray 23 (0, 0))] := hs37
  refine zE 1 (hK29 _ _ ?_)
  refine W.seq fun K39 hK39 => ?_
  refine W.sr fun K40 hK40 => ?_
  refine zE 1 (hK40 _ _ ?_)
  refine W.block ?_
  have hs49 := St.f1 hs38
  have hs50 := St.f2 hs49
  refine W.loop_iter (G := (List Int) × Int × (Option Addr) × Nat) (σ := (List Int) × Int) (fun | (q43, p44, m41, m42) => (q43, p44)) (fun | (q43, p44, m41, m42), s_, w_ => (∃ us, s_ = slots 134 [(1, (.slice ka ks.length kc)), (5, (.pointer (some ⟨b19, 0, none⟩))), (6, (.slice m41 q43.length m42)), (7, (.slice a34 ((fmtW 1 (2 + 0 % 20) (2 + m_ % 60)).length) c35)), (8, (.int .i64 p44))] us) ∧ St B w [] w_ [blk b19 (.cells [(.int .i64 1), (.int .i64 (2 + 0 % 20)), (.int .i64 (2 + m_ % 60))].toArray 23 (0, 0)), kU64.row m41 m42 q43, kU64.row a34 c35 (fmtW 1 (2 + 0 % 20) (2 + m_ % 60))]) ((fmtW 1 (2 + 0 % 20) (2 + m_ % 60)), 0, a24, c25) ⟨slots_intro _ (by kernel_rfl), hs50⟩ hm ?_
  rintro k45 ih46 ⟨q43, p44, m41, m42⟩ _ w47 ⟨⟨us, rfl⟩, hs48⟩ hm
  replace hm : blocksback_B0 m_ ks k45 q43 p44 = some true := hm
  unfold blocksback_B0 at hm
  refine W.seq fun K51 hK51 => ?_
  refine W.sr fun K52 hK52 => ?_
  refine zE 2 (hK52 _ _ ?_)
  refine W.cond (decide (p44 < 2)) (by kernel_rfl) (fun h53 => ?_) (fun h53 => ?_)
  ·
   obtain ⟨h53p, hm⟩ := iY hm h53
   refine W.skip ?_
   refine hK51 _ _ ?_
   refine W.seq fun K54 hK54 => ?_
   refine W.block ?_
   refine W.seq_join (fun s_ w_ => ∃ (q57 : List Int) (m55 : Option Addr) (m56 : Nat), (∃ us, s_ = slots 134 [(1, (.slice ka ks.length kc)), (5, (.pointer (some ⟨b19, 0, none⟩))), (6, (.slice m55 q57.length m56)), (7, (.slice a34 ((fmtW 1 (2 + 0 % 20) (2 + m_ % 60)).length) c35)), (8, (.int .i64 p44))] us) ∧ St B w [] w_ [blk b19 (.cells [(.int .i64 1), (.int .i64 (2 + 0 % 20)), (.int .i64 (2 + m_ % 60))].toArray 23 (0, 0)), kU64.row m55 m56 q57, kU64.row a34 c35 (fmtW 1 (2 + 0 % 20) (2 + m_ % 60))] ∧ blocksback_J2 m_ k45 p44 q57 = some true) ?_ ?_
   ·
    rintro _ w58 ⟨q57, m55, m56, ⟨us, rfl⟩, hs59, hm⟩
    unfold blocksback_J2 at hm
    refine W.sr fun K60 hK60 => ?_
    refine zR 1 ?_
    obtain ⟨h62, hm⟩ := need_some hm
    refine ops_call0 hs59 (by kernel_rfl) (new_spec (hc := (St.kcells kU64 hs59 1 rfl)) (hn := (St.capnil kU64 hs59 1 rfl)) (hsz := h62) B _) ?_
    rintro _ _ w63 ⟨b61, rfl, rfl⟩ hs64
    have hs65 := St.ap1 hs64
    refine zE 1 (hK60 _ _ ?_)
    refine W.sr fun K66 hK66 => ?_
    refine zR 1 ?_
    refine ops_R (runs_loadAgg (ad := ⟨b19, 0, none⟩) (cs := [(.int .i64 1), (.int .i64 (2 + 0 % 20)), (.int .i64 (2 + m_ % 60))]) (by kernel_rfl) (cells_sub (hs65.heapAt 1 rfl) rfl)) ?_
    rcases Bool.eq_false_or_eq_true (decide ((igetM q57 ([]) 1 (2 + 0 % 20) (2 + m_ % 60) 1).2 = 0)) with h67 | h67
    ·
     obtain ⟨h67p, hm⟩ := iY hm h67
     refine ops_call0 hs65 (by kernel_rfl) (bof_ok (gw := 1) (gi := (2 + 0 % 20)) (gb := (2 + m_ % 60)) (n_ := 1) (hv := (hs65.entAt 0 rfl viewA_at)) (hP := h67p) B _) ?_
     rintro _ _ w69 ⟨b68, rfl, rfl⟩ hs70
     have hs71 := St.ap1 hs70
     refine zE 5 (hK66 _ _ ?_)
     refine W.seq fun K72 hK72 => ?_
     refine W.sr fun K73 hK73 => ?_
     refine zR 12 ?_
     obtain ⟨r74, h75, hm⟩ := bind_some hm
     have hs76 := St.f1 hs71
     have hs77 := St.f1 hs76
     refine zC22 hs77 (bCut_walk (mb := b68) (vb := b61) (f_ := 0) (img := q57) (l := []) (gw := 1) (gi := (2 + 0 % 20)) (gb := (2 + m_ % 60)) (n_ := 1) (hm := h75) B _) fun w78 hs80 => ?_
     refine zR 3 ?_
     rcases Bool.eq_false_or_eq_true (!decide (r74.1 = 0)) with h81 | h81
     rotate_left
     ·
      have h81p : r74.1 = 0 := of_decide_eq_true (bnot_false h81)
      replace hm := ite_yes hm h81p
      refine zS 105 h81 ?_
      refine zS 103 h81 ?_
      refine zS 104 h81 ?_
      refine zR 1 ?_
      obtain ⟨r84, h85, hm⟩ := bind_some hm
      have hs86 := St.f1 hs80
      have hs87 := St.f1 hs86
      refine ops_call2 hs87 (by kernel_rfl) (bList_walk (mb := b68) (vb := b61) (img := q57) (l := r74.2) (gw := 1) (gi := (2 + 0 % 20)) (gb := (2 + m_ % 60)) (n_ := 1) (hm := h85) B _) ?_
      rintro _ _ w88 ⟨a82, c83, rfl, rfl⟩ hs89
      have hs90 := St.ap3 hs89
      refine zE 3 (hK73 _ _ ?_)
      refine W.cond (!decide ((r84.length : Int) = 0)) (by kernel_rfl) (fun h91 => ?_) (fun h91 => ?_)
      rotate_left
      ·
       have h91p : (r84.length : Int) = 0 := of_decide_eq_true (bnot_false h91)
       replace hm := ite_yes hm h91p
       refine W.skip ?_
       refine hK72 _ _ ?_
       refine W.sr fun K92 hK92 => ?_
       refine zR 1 ?_
       refine ops_call0 hs90 (by kernel_rfl) (flat_spec (hv := (hs90.entAt 2 rfl viewA_at)) B _) ?_
       rintro _ _ w95 ⟨a93, c94, rfl, rfl⟩ hs96
       have hs97 := St.ap1 hs96
       refine zE 1 (hK92 _ _ ?_)
       refine W.seq fun K98 hK98 => ?_
       refine W.sr fun K99 hK99 => ?_
       refine zE 5 (hK99 _ _ ?_)
       refine W.cond (!decide ((((vflat q57 r74.2).length) : Int) = (((fmtW 1 (2 + 0 % 20) (2 + m_ % 60)).length) : Int))) (by kernel_rfl) (fun h100 => ?_) (fun h100 => ?_)
       rotate_left
       ·
        have h100p : (((vflat q57 r74.2).length) : Int) = (((fmtW 1 (2 + 0 % 20) (2 + m_ % 60)).length) : Int) := of_decide_eq_true (bnot_false h100)
        replace hm := ite_yes hm h100p
        refine W.skip ?_
        refine hK98 _ _ ?_
        refine W.sr fun K101 hK101 => ?_
        refine zE 1 (hK101 _ _ ?_)
        refine W.block ?_
        have hs107 := St.f5 hs97
        have hs108 := St.f3 hs107
        have hs109 := St.f4 hs108
        have hs110 := St.f4 hs109
        have hs111 := St.f6 hs110
        have hs112 := St.f5 hs111
        have hs113 := St.f6 hs112
        refine W.loop_iter (G := Int) (σ := Int) (fun | p102 => p102) (fun | p102, s_, w_ => (∃ us, s_ = slots 134 [(1, (.slice ka ks.length kc)), (5, (.pointer (some ⟨b19, 0, none⟩))), (6, (.slice a93 ((vflat q57 r74.2).length) c94)), (7, (.slice a34 ((fmtW 1 (2 + 0 % 20) (2 + m_ % 60)).length) c35)), (8, (.int .i64 p44)), (18, (.int .i64 p102))] us) ∧ St B w [] w_ [blk b19 (.cells [(.int .i64 1), (.int .i64 (2 + 0 % 20)), (.int .i64 (2 + m_ % 60))].toArray 23 (0, 0)), kU64.row a93 c94 (vflat q57 r74.2), kU64.row a34 c35 (fmtW 1 (2 + 0 % 20) (2 + m_ % 60)), kInt.row a82 c83 r84, viewA (ptr b61) q57 r74.2, blk b68 (.cells [(.pointer (some ⟨b61, 0, none⟩)), (.int .i64 1), (.int .i64 (2 + 0 % 20)), (.int .i64 (2 + m_ % 60)), (.int .i64 1)].toArray 85 (0, 0)), kU64.row m55 m56 q57]) 0 ⟨slots_intro _ (by kernel_rfl), hs113⟩ hm ?_
        rintro k103 ih104 p102 _ w105 ⟨⟨us, rfl⟩, hs106⟩ hm
        replace hm : blocksback_B2 m_ k45 p44 q57 r74 k103 p102 = some true := hm
        unfold blocksback_B2 at hm
        refine W.seq fun K114 hK114 => ?_
        refine W.sr fun K115 hK115 => ?_
        refine zR 1 ?_
        refine ops_R (runs_loadAgg (ad := ⟨b19, 0, none⟩) (cs := [(.int .i64 1), (.int .i64 (2 + 0 % 20)), (.int .i64 (2 + m_ % 60))]) (by kernel_rfl) (cells_sub (hs106.heapAt 0 rfl) rfl)) ?_
        refine zC00 hs106 (blockat_spec (gw := 1) (gi := (2 + 0 % 20)) (gb := (2 + m_ % 60)) (n_ := 0) B _) fun w116 hs118 => ?_
        refine zE 1 (hK115 _ _ ?_)
        refine W.cond (decide (p102 < (placeOf 9 1 (2 + 0 % 20) (2 + m_ % 60) 0))) (by kernel_rfl) (fun h119 => ?_) (fun h119 => ?_)
        ·
         obtain ⟨h119p, hm⟩ := iY hm h119
         refine W.skip ?_
         refine hK114 _ _ ?_
         refine W.seq fun K120 hK120 => ?_
         refine W.block ?_
         refine W.seq fun K121 hK121 => ?_
         have hs122 := hs118.drew
         refine W.regionD [(0, 0), (0, 0), (3, 3), (4, 4), (0, 0), (0, 0), (48, 48), (64, 64), (136, 136)] (fun w_ => St B w [] w_ [blk b19 (.cells [(.int .i64 1), (.int .i64 (2 + 0 % 20)), (.int .i64 (2 + m_ % 60))].toArray 23 (0, 0)), kU64.row a93 c94 (vflat q57 r74.2), kU64.row a34 c35 (fmtW 1 (2 + 0 % 20) (2 + m_ % 60)), kInt.row a82 c83 r84, viewA (ptr b61) q57 r74.2, blk b68 (.cells [(.pointer (some ⟨b61, 0, none⟩)), (.int .i64 1), (.int .i64 (2 + 0 % 20)), (.int .i64 (2 + m_ % 60)), (.int .i64 1)].toArray 85 (0, 0)), kU64.row m55 m56 q57]) (by kernel_rfl) hs122 ?_
         refine any_val (v := (.slice a93 ((vflat q57 r74.2).length) c94)) (v' := (.slice a93 ((vflat q57 r74.2).length) c94)) 0 (by kernel_rfl) (fun _ => by kernel_rfl) rfl hs122 ?_
         refine any_val (v := (.int .i64 p102)) (v' := (.int .i64 p102)) 1 (by kernel_rfl) (fun _ => by kernel_rfl) rfl hs122 ?_
         obtain ⟨h124, hm⟩ := need_some hm
         have hk123 := lt_toNat h124
         refine any_R 2 (by kernel_rfl) (fun _ hS_ => runs_index (a := a93) (n := (vflat q57 r74.2).length) (z := p102) (size := 1) p102.toNat (nat_of h124.1) hk123 (kU64.addr (St.kcells kU64 hs122 1 rfl) hk123) (by kernel_rfl)) hs122 ?_
         refine any_R 3 (by kernel_rfl) (fun _ hS_ => runs_load (ad := ((adr a93 (p102.toNat * 1)).add 0)) (v := (.int .u64 ((vflat q57 r74.2).getD p102.toNat 0))) (by kernel_rfl) (kU64.at (St.kcells kU64 hS_ 1 rfl) hk123 0 0 rfl)) hs122 ?_
         refine any_val (v := (.slice a34 ((fmtW 1 (2 + 0 % 20) (2 + m_ % 60)).length) c35)) (v' := (.slice a34 ((fmtW 1 (2 + 0 % 20) (2 + m_ % 60)).length) c35)) 4 (by kernel_rfl) (fun _ => by kernel_rfl) rfl hs122 ?_
         refine any_val (v := (.int .i64 p102)) (v' := (.int .i64 p102)) 5 (by kernel_rfl) (fun _ => by kernel_rfl) rfl hs122 ?_
         obtain ⟨h126, hm⟩ := need_some hm
         have hk125 := lt_toNat h126
         refine any_R 6 (by kernel_rfl) (fun _ hS_ => runs_index (a := a34) (n := (fmtW 1 (2 + 0 % 20) (2 + m_ % 60)).length) (z := p102) (size := 1) p102.toNat (nat_of h126.1) hk125 (kU64.addr (St.kcells kU64 hs122 2 rfl) hk125) (by kernel_rfl)) hs122 ?_
         refine any_R 7 (by kernel_rfl) (fun _ hS_ => runs_load (ad := ((adr a34 (p102.toNat * 1)).add 0)) (v := (.int .u64 ((fmtW 1 (2 + 0 % 20) (2 + m_ % 60)).getD p102.toNat 0))) (by kernel_rfl) (kU64.at (St.kcells kU64 hS_ 2 rfl) hk125 0 0 rfl)) hs122 ?_
         refine any_val (v := (.bool (!decide (((vflat q57 r74.2).getD p102.toNat 0) = ((fmtW 1 (2 + 0 % 20) (2 + m_ % 60)).getD p102.toNat 0))))) (v' := (.bool (!decide (((vflat q57 r74.2).getD p102.toNat 0) = ((fmtW 1 (2 + 0 % 20) (2 + m_ % 60)).getD p102.toNat 0))))) 8 (by kernel_rfl) (fun _ => by kernel_rfl) rfl hs122 ?_
         refine any_done (by kernel_rfl) ?_
         refine hK121 _ _ ?_
         refine W.cond (!decide (((vflat q57 r74.2).getD p102.toNat 0) = ((fmtW 1 (2 + 0 % 20) (2 + m_ % 60)).getD p102.toNat 0))) (by kernel_rfl) (fun h127 => ?_) (fun h127 => ?_)
         rotate_left
         ·
          have h127p : ((vflat q57 r74.2).getD p102.toNat 0) = ((fmtW 1 (2 + 0 % 20) (2 + m_ % 60)).getD p102.toNat 0) := of_decide_eq_true (bnot_false h127)
          replace hm := ite_yes hm h127p
          refine W.skip ?_
          refine normal_block ?_
          refine hK120 _ _ ?_
          refine W.region ?_
          refine zR 1 ?_
          obtain ⟨h128, hm⟩ := need_some hm
          refine zI _ (wrap_i64 h128.1 h128.2) ?_
          refine zE 1 ?_
          refine loopAt_next ?_
          exact ih104 (p102 + 1) _ _ ⟨slots_intro _ (by kernel_rfl), hs122⟩ hm
         ·
          have h127p : ¬ (((vflat q57 r74.2).getD p102.toNat 0) = ((fmtW 1 (2 + 0 % 20) (2 + m_ % 60)).getD p102.toNat 0)) := of_decide_eq_false (bnot_true h127)
          replace hm := ite_no hm h127p
          refine W.sr fun K129 hK129 => ?_
          refine zE 1 (hK129 _ _ ?_)
          refine W.ret (ret_block (ret_seq (ret_seq (ret_block (ret_block (ret_seq (ret_seq (ret_block (ret_seq ?_)))))))))
          have hs130 := St.tk0 hs122
          refine ret_of (.bool false) (by kernel_rfl) ⟨_, ⟨congrArg Value.bool (some_inj hm), rfl⟩, hs130⟩
        ·
         obtain ⟨h119p, hm⟩ := iN hm h119
         refine W.exit (exit_seq (exit_seq (exit_here ?_)))
         refine normal_block ?_
         refine hK54 _ _ ?_
         refine W.region ?_
         refine zR 1 ?_
         obtain ⟨h131, hm⟩ := need_some hm
         refine zI _ (wrap_i64 h131.1 h131.2) ?_
         refine zE 1 ?_
         have hs132 := St.f2 hs118
         have hs133 := St.f2 hs132
         have hs134 := St.f2 hs133
         have hs135 := St.tk3 hs134
         refine loopAt_next ?_
         exact ih46 ((vflat q57 r74.2), (p44 + 1), a93, c94) _ _ ⟨slots_intro _ (by kernel_rfl), hs135⟩ hm
       ·
        have h100p : ¬ ((((vflat q57 r74.2).length) : Int) = (((fmtW 1 (2 + 0 % 20) (2 + m_ % 60)).length) : Int)) := of_decide_eq_false (bnot_true h100)
        replace hm := ite_no hm h100p
        refine W.sr fun K136 hK136 => ?_
        refine zE 1 (hK136 _ _ ?_)
        refine W.ret (ret_seq (ret_block (ret_seq (ret_seq (ret_block (ret_seq ?_))))))
        have hs137 := St.tk0 hs97
        refine ret_of (.bool false) (by kernel_rfl) ⟨_, ⟨congrArg Value.bool (some_inj hm), rfl⟩, hs137⟩
      ·
       have h91p : ¬ ((r84.length : Int) = 0) := of_decide_eq_false (bnot_true h91)
       replace hm := ite_no hm h91p
       refine W.sr fun K138 hK138 => ?_
       refine zE 1 (hK138 _ _ ?_)
       refine W.ret (ret_seq (ret_block (ret_seq (ret_seq (ret_block (ret_seq ?_))))))
       have hs139 := St.tk0 hs90
       refine ret_of (.bool false) (by kernel_rfl) ⟨_, ⟨congrArg Value.bool (some_inj hm), rfl⟩, hs139⟩
     ·
      have h81p : ¬ (r74.1 = 0) := of_decide_eq_false (bnot_true h81)
      replace hm := ite_no hm h81p
      refine zS 105 h81 ?_
      refine zS 103 h81 ?_
      refine zS 104 h81 ?_
      refine zE 5 (hK73 _ _ ?_)
      refine W.cond_true true (by kernel_rfl) rfl ?_
      refine W.sr fun K140 hK140 => ?_
      refine zE 1 (hK140 _ _ ?_)
      refine W.ret (ret_seq (ret_block (ret_seq (ret_seq (ret_block (ret_seq ?_))))))
      have hs141 := St.tk0 hs80
      refine ret_of (.bool false) (by kernel_rfl) ⟨_, ⟨congrArg Value.bool (some_inj hm), rfl⟩, hs141⟩
    ·
     obtain ⟨h67p, hm⟩ := iN hm h67
     refine zC00 hs65 (bof_err (gw := 1) (gi := (2 + 0 % 20)) (gb := (2 + m_ % 60)) (n_ := 1) (hv := (hs65.entAt 0 rfl viewA_at)) (hN := h67p) B _) fun w142 hs144 => ?_
     refine zR 5 ?_
     obtain ⟨r145, h146, hm⟩ := bind_some hm
     replace h146 := some_inj h146
     refine ops_set 17 (v := .int .i64 r145) (Eq.trans (by kernel_rfl) (congrArg (Value.int .i64) h146)) ?_
     refine zD (hK66 _ _ ?_)
     refine W.seq fun K147 hK147 => ?_
     refine W.sr fun K148 hK148 => ?_
     refine zE 21 (hK148 _ _ ?_)
     refine W.cond_true true (by kernel_rfl) rfl ?_
     refine W.sr fun K149 hK149 => ?_
     refine zE 1 (hK149 _ _ ?_)
     refine W.ret (ret_seq (ret_block (ret_seq (ret_seq (ret_block (ret_seq ?_))))))
     have hs150 := St.tk0 hs144
     refine ret_of (.bool false) (by kernel_rfl) ⟨_, ⟨congrArg Value.bool (some_inj hm), rfl⟩, hs150⟩
   ·
    refine W.sr fun K151 hK151 => ?_
    refine zE 1 (hK151 _ _ ?_)
    refine W.block ?_
    refine W.loop_iter (G := (List Int) × Int × (Option Addr) × Nat) (σ := (List Int) × Int) (fun | (q154, p155, m152, m153) => (q154, p155)) (fun | (q154, p155, m152, m153), s_, w_ => (∃ us, s_ = slots 134 [(1, (.slice ka ks.length kc)), (5, (.pointer (some ⟨b19, 0, none⟩))), (6, (.slice m152 q154.length m153)), (7, (.slice a34 ((fmtW 1 (2 + 0 % 20) (2 + m_ % 60)).length) c35)), (8, (.int .i64 p44)), (9, (.int .i64 p155))] us) ∧ St B w [] w_ [blk b19 (.cells [(.int .i64 1), (.int .i64 (2 + 0 % 20)), (.int .i64 (2 + m_ % 60))].toArray 23 (0, 0)), kU64.row m152 m153 q154, kU64.row a34 c35 (fmtW 1 (2 + 0 % 20) (2 + m_ % 60))]) (q43, 0, m41, m42) ⟨slots_intro _ (by kernel_rfl), hs48⟩ hm ?_
    rintro k156 ih157 ⟨q154, p155, m152, m153⟩ _ w158 ⟨⟨us, rfl⟩, hs159⟩ hm
    replace hm : blocksback_B1 m_ ks k45 p44 k156 q154 p155 = some true := hm
    unfold blocksback_B1 at hm
    refine W.seq fun K160 hK160 => ?_
    refine W.sr fun K161 hK161 => ?_
    refine zE 4 (hK161 _ _ ?_)
    refine W.cond (decide (p155 < (ks.length : Int))) (by kernel_rfl) (fun h162 => ?_) (fun h162 => ?_)
    ·
     obtain ⟨h162p, hm⟩ := iY hm h162
     refine W.skip ?_
     refine hK160 _ _ ?_
     refine W.seq fun K163 hK163 => ?_
     refine W.block ?_
     refine W.sr fun K164 hK164 => ?_
     refine zR 1 ?_
     obtain ⟨h166, hm⟩ := need_some hm
     refine ops_call0 hs159 (by kernel_rfl) (new_spec (hc := (St.kcells kU64 hs159 1 rfl)) (hn := (St.capnil kU64 hs159 1 rfl)) (hsz := h166) B _) ?_
     rintro _ _ w167 ⟨b165, rfl, rfl⟩ hs168
     have hs169 := St.ap1 hs168
     refine zE 1 (hK164 _ _ ?_)
     refine W.sr fun K170 hK170 => ?_
     refine zR 1 ?_
     refine ops_R (runs_loadAgg (ad := ⟨b19, 0, none⟩) (cs := [(.int .i64 1), (.int .i64 (2 + 0 % 20)), (.int .i64 (2 + m_ % 60))]) (by kernel_rfl) (cells_sub (hs169.heapAt 1 rfl) rfl)) ?_
     rcases Bool.eq_false_or_eq_true (decide ((igetM q154 ([]) 1 (2 + 0 % 20) (2 + m_ % 60) 1).2 = 0)) with h171 | h171
     ·
      obtain ⟨h171p, hm⟩ := iY hm h171
      refine ops_call0 hs169 (by kernel_rfl) (bof_ok (gw := 1) (gi := (2 + 0 % 20)) (gb := (2 + m_ % 60)) (n_ := 1) (hv := (hs169.entAt 0 rfl viewA_at)) (hP := h171p) B _) ?_
      rintro _ _ w173 ⟨b172, rfl, rfl⟩ hs174
      have hs175 := St.ap1 hs174
      refine zE 5 (hK170 _ _ ?_)
      refine W.seq fun K176 hK176 => ?_
      refine W.sr fun K177 hK177 => ?_
      refine zE 10 (hK177 _ _ ?_)
      refine W.cond_false false (by kernel_rfl) rfl ?_
      refine W.skip ?_
      refine hK176 _ _ ?_
      refine W.sr fun K178 hK178 => ?_
      refine zR 3 ?_
      obtain ⟨h180, hm⟩ := need_some hm
      have hk179 := lt_toNat h180
      refine ops_R (runs_index (a := ka) (n := ks.length) (z := p155) (size := 1) p155.toNat (nat_of h180.1) hk179 (kU8.addr (hs175.oldCells hk) hk179) (by kernel_rfl)) ?_
      refine zL ((adr ka (p155.toNat * 1)).add 0) (.int .u8 (ks.getD p155.toNat 0)) (kU8.at (hs175.oldCells hk) hk179 0 0 rfl) ?_
      obtain ⟨h181, hm⟩ := need_some hm
      refine zI _ (wrap_i64 h181.1 h181.2) ?_
      refine zR 1 ?_
      obtain ⟨r182, h183, hm⟩ := bind_some hm
      have hs184 := St.f1 hs175
      have hs185 := St.f1 hs184
      refine zC22 hs185 (bTake_walk (mb := b172) (vb := b165) (k_ := (ks.getD p155.toNat 0).tmod 12) (img := q154) (l := []) (gw := 1) (gi := (2 + 0 % 20)) (gb := (2 + m_ % 60)) (n_ := 1) (hG := hG) (hT := (hs175.oldCells hT)) (hm := h183) B _) fun w186 hs188 => ?_
      refine zE 5 (hK178 _ _ ?_)
      refine W.seq_join (fun s_ w_ => (∃ us, s_ = slots 134 [(1, (.slice ka ks.length kc)), (5, (.pointer (some ⟨b19, 0, none⟩))), (7, (.slice a34 ((fmtW 1 (2 + 0 % 20) (2 + m_ % 60)).length) c35)), (8, (.int .i64 p44)), (9, (.int .i64 p155)), (10, (.pointer (some ⟨b165, 0, none⟩)))] us) ∧ St B w [] w_ [blk b19 (.cells [(.int .i64 1), (.int .i64 (2 + 0 % 20)), (.int .i64 (2 + m_ % 60))].toArray 23 (0, 0)), kU64.row a34 c35 (fmtW 1 (2 + 0 % 20) (2 + m_ % 60)), viewA (ptr b165) q154 r182.2.2, blk b172 (.cells [(.pointer (some ⟨b165, 0, none⟩)), (.int .i64 1), (.int .i64 (2 + 0 % 20)), (.int .i64 (2 + m_ % 60)), (.int .i64 1)].toArray 85 (0, 0)), kU64.row m152 m153 q154] ∧ blocksback_J5 m_ k156 q154 p155 r182 = some true) ?_ ?_
      ·
       rintro _ w189 ⟨⟨us, rfl⟩, hs190, hm⟩
       unfold blocksback_J5 at hm
       refine W.sr fun K191 hK191 => ?_
       refine zR 1 ?_
       refine ops_call0 hs190 (by kernel_rfl) (flat_spec (hv := (hs190.entAt 2 rfl viewA_at)) B _) ?_
       rintro _ _ w194 ⟨a192, c193, rfl, rfl⟩ hs195
       have hs196 := St.ap1 hs195
       refine zE 1 (hK191 _ _ ?_)
       refine W.sr fun K197 hK197 => ?_
       refine zE 5 (hK197 _ _ ?_)
       refine W.cond (!decide ((((vflat q154 r182.2.2).length) : Int) = (((fmtW 1 (2 + 0 % 20) (2 + m_ % 60)).length) : Int))) (by kernel_rfl) (fun h198 => ?_) (fun h198 => ?_)
       rotate_left
       ·
        have h198p : (((vflat q154 r182.2.2).length) : Int) = (((fmtW 1 (2 + 0 % 20) (2 + m_ % 60)).length) : Int) := of_decide_eq_true (bnot_false h198)
        replace hm := ite_yes hm h198p
        refine W.skip ?_
        refine normal_block ?_
        refine hK163 _ _ ?_
        refine W.region ?_
        refine zR 1 ?_
        obtain ⟨h199, hm⟩ := need_some hm
        refine zI _ (wrap_i64 h199.1 h199.2) ?_
        refine zE 1 ?_
        have hs200 := St.f2 hs196
        have hs201 := St.f1 hs200
        have hs202 := St.f2 hs201
        have hs203 := St.tk3 hs202
        refine loopAt_next ?_
        exact ih157 ((vflat q154 r182.2.2), (p155 + 1), a192, c193) _ _ ⟨slots_intro _ (by kernel_rfl), hs203⟩ hm
       ·
        have h198p : ¬ ((((vflat q154 r182.2.2).length) : Int) = (((fmtW 1 (2 + 0 % 20) (2 + m_ % 60)).length) : Int)) := of_decide_eq_false (bnot_true h198)
        replace hm := ite_no hm h198p
        refine W.sr fun K204 hK204 => ?_
        refine zE 1 (hK204 _ _ ?_)
        refine W.ret (ret_block (ret_seq (ret_seq (ret_block (ret_seq (ret_block (ret_seq (ret_seq (ret_block (ret_seq ?_))))))))))
        have hs205 := St.tk0 hs196
        refine ret_of (.bool false) (by kernel_rfl) ⟨_, ⟨congrArg Value.bool (some_inj hm), rfl⟩, hs205⟩
      ·
       refine W.sr fun K206 hK206 => ?_
       refine zR 3 ?_
       rcases Bool.eq_false_or_eq_true (!decide (r182.2.1 = 0)) with h207 | h207
       rotate_left
       ·
        have h207p : r182.2.1 = 0 := of_decide_eq_true (bnot_false h207)
        replace hm := ite_yes hm h207p
        refine zS 71 h207 ?_
        refine zS 70 h207 ?_
        refine zE 3 (hK206 _ _ ?_)
        refine W.cond_false false (by kernel_rfl) rfl ?_
        refine W.skip ?_
        have hs208 := St.f3 hs188
        have hs209 := St.f1 hs208
        have hs210 := St.f2 hs209
        have hs211 := St.f4 hs210
        have hs212 := St.f4 hs211
        exact ⟨slots_intro _ (by kernel_rfl), hs212, hm⟩
       ·
        have h207p : ¬ (r182.2.1 = 0) := of_decide_eq_false (bnot_true h207)
        replace hm := ite_no hm h207p
        refine zS 71 h207 ?_
        refine zS 70 h207 ?_
        refine zE 3 (hK206 _ _ ?_)
        refine W.cond (!decide (r182.2.1 = 7)) (by kernel_rfl) (fun h213 => ?_) (fun h213 => ?_)
        rotate_left
        ·
         have h213p : r182.2.1 = 7 := of_decide_eq_true (bnot_false h213)
         replace hm := ite_yes hm h213p
         refine W.skip ?_
         have hs214 := St.f3 hs188
         have hs215 := St.f1 hs214
         have hs216 := St.f2 hs215
         have hs217 := St.f4 hs216
         have hs218 := St.f4 hs217
         exact ⟨slots_intro _ (by kernel_rfl), hs218, hm⟩
        ·
         have h213p : ¬ (r182.2.1 = 7) := of_decide_eq_false (bnot_true h213)
         replace hm := ite_no hm h213p
         refine W.sr fun K219 hK219 => ?_
         refine zE 1 (hK219 _ _ ?_)
         refine W.ret (ret_seq (ret_block (ret_seq (ret_seq (ret_block (ret_seq (ret_block (ret_seq (ret_seq (ret_block (ret_seq ?_)))))))))))
         have hs220 := St.tk0 hs188
         refine ret_of (.bool false) (by kernel_rfl) ⟨_, ⟨congrArg Value.bool (some_inj hm), rfl⟩, hs220⟩
     ·
      obtain ⟨h171p, hm⟩ := iN hm h171
      refine zC00 hs169 (bof_err (gw := 1) (gi := (2 + 0 % 20)) (gb := (2 + m_ % 60)) (n_ := 1) (hv := (hs169.entAt 0 rfl viewA_at)) (hN := h171p) B _) fun w221 hs223 => ?_
      refine zR 5 ?_
      obtain ⟨r224, h225, hm⟩ := bind_some hm
      replace h225 := some_inj h225
      refine ops_set 12 (v := .int .i64 r224) (Eq.trans (by kernel_rfl) (congrArg (Value.int .i64) h225)) ?_
      refine zD (hK170 _ _ ?_)
      refine W.seq fun K226 hK226 => ?_
      refine W.sr fun K227 hK227 => ?_
      refine zE 10 (hK227 _ _ ?_)
      refine W.cond_true true (by kernel_rfl) rfl ?_
      refine W.sr fun K228 hK228 => ?_
      refine zE 1 (hK228 _ _ ?_)
      refine W.ret (ret_seq (ret_block (ret_seq (ret_seq (ret_block (ret_seq (ret_block (ret_seq (ret_seq (ret_block (ret_seq ?_)))))))))))
      have hs229 := St.tk0 hs223
      refine ret_of (.bool false) (by kernel_rfl) ⟨_, ⟨congrArg Value.bool (some_inj hm), rfl⟩, hs229⟩
    ·
     obtain ⟨h162p, hm⟩ := iN hm h162
     refine W.exit (exit_seq (exit_seq (exit_here ?_)))
     exact ⟨q154, m152, m153, slots_intro _ (by kernel_rfl), hs159, hm⟩
  ·
   obtain ⟨h53p, hm⟩ := iN hm h53
   refine W.exit (exit_seq (exit_seq (exit_here ?_)))
   refine hK39 _ _ ?_
   refine W.sr fun K230 hK230 => ?_
   obtain ⟨r231, h232, hm⟩ := bind_some hm
   refine zC00 hs48 (works13_walk (hG := hG) (hT := (hs48.oldCells hT)) (hm := h232) B _) fun w233 hs235 => ?_
   refine zE 1 (hK230 _ _ ?_)
   refine W.ret ?_
   have hs236 := St.tk0 hs235
   refine ret_of (.bool r231) (by kernel_rfl) ⟨_, ⟨congrArg Value.bool (some_inj hm), rfl⟩, hs236⟩

end Go.Proofs.YtmmclabkkigiaaaDoor

namespace Go.Proofs.YtmmclabkkigiaaaDoor
open Go Go.RowKit
set_option linter.unusedVariables false
set_option linter.unusedSimpArgs false

theorem blocksback_law {m_ : Int} {ks : List Int} (hm : 0 ≤ m_ ∧ m_ ≤ 255) (hks : ∀ x ∈ ks, good_u8 x) : blocksback_M m_ ks = some true := by
  refine Ok.true ?_
  unfold blocksback_M
  refine Ok.ite (fun _ => works13_stop) fun h30 => ?_
  refine Ok.need (by omega) (Ok.need (by omega) ?_)
  have e2 : (2 : Int) + 0 % 20 = 2 := rfl
  obtain ⟨gb, hgb⟩ : ∃ gb, gb = 2 + m_ % 60 := ⟨_, rfl⟩
  have hM : May 1 2 gb := by unfold May; omega
  have hF := Mp.fmt hM
  have hl := hF.dk.len
  rw [e2, ← hgb]
  -- a device on which the first inode alone has blocks; all else is as it was
  let I : List Int → Prop := fun q => ∃ f c, Mp 2 gb q [] 1 (fun _ => False) ⟨2, 1, 0, 0, 0⟩ f c ∧ Full f c ∧ ∀ z, z < 480 ∨ (488 ≤ z ∧ z < 520 ∧ ¬ (508 ≤ z ∧ z ≤ 512)) → vget q [] z = vget (fmtW 1 2 gb) [] z
  refine Ok.iter (fun s => I s.1 ∧ 0 ≤ s.2 ∧ s.2 ≤ 2) (fun s => (2 - s.2).toNat) ?_ _ _ ⟨⟨_, _, hF, fun h => absurd rfl h, fun _ _ => rfl⟩, by simp, by simp⟩ (fuel_lt (by simp only; omega))
  rintro k ⟨q, p⟩ ⟨hI, h1, h2⟩ ih
  simp only at hI h1 h2 ih
  unfold blocksback_B0
  simp only
  refine Ok.ite (fun hp => ?_) (fun _ => works13_stop)
  refine Ok.iter (fun s => I s.1 ∧ 0 ≤ s.2) (fun s => ((ks.length : Int) - s.2).toNat) ?_ _ _ ⟨hI, by simp⟩ (fuel_lt (by simp only; omega))
  clear hI
  rintro k2 ⟨q, t⟩ ⟨⟨f, c, h, hFull, hfr⟩, t1⟩ ih2
  simp only at h hfr t1 ih2
  have hql := h.dk.len
  unfold blocksback_B1
  simp only
  rw [e2, ← hgb]
  refine Ok.ite (fun ht => ?_) (fun ht => ?_)
  · refine Ok.need (by omega) (Ok.yes (by rw [h.iget]) (Ok.need (by omega) ?_))
    have hkr : 0 ≤ ks.getD t.toNat 0 ∧ ks.getD t.toNat 0 ≤ 255 := by
      have hn : t.toNat < ks.length := by omega
      have : ks.getD t.toNat 0 ∈ ks := by simp [List.getD, hn]
      exact hks _ this
    have hk12 := Int.tmod_eq_emod_of_nonneg (a := ks.getD t.toNat 0) (b := 12) hkr.1
    refine Ok.need (by omega) ?_
    obtain ⟨kk, hkk⟩ := Int.eq_ofNat_of_zero_le (show 0 ≤ (ks.getD t.toNat 0).tmod 12 by omega)
    rw [hkk]
    have J5 : ∀ (r : Int × Int × List (Int × Int)) (f' : Nat → Int) (c' : Int), Mp 2 gb q r.2.2 1 (fun _ => False) ⟨2, 1, 0, 0, 0⟩ f' c' → Full f' c' → (∀ z, z < 480 ∨ (488 ≤ z ∧ z < 520 ∧ ¬ (508 ≤ z ∧ z ≤ 512)) → vget q r.2.2 z = vget (fmtW 1 2 gb) [] z) →
        Ok (· = true) (blocksback_J5 m_ k2 q t r) := by
      intro r f' c' a1 a2 a3
      unfold blocksback_J5
      rw [e2, ← hgb]
      have hvl := vflat_length q r.2.2
      refine Ok.yes (by omega) (Ok.need (by omega) (ih2 _ ⟨⟨f', c', a1.flat, a2, fun z hz => ?_⟩, by simp only; omega⟩ (by simp only; omega)))
      rw [vget_flat a1.dk.ok]
      exact a3 z hz
    rcases h.take (k := kk) (by omega) (by simp) with ⟨a1, a2⟩ | ⟨a1, _, a2⟩ | ⟨a1, _, m, b, c', a2, a3, a4, a5, a6, a7, a8, a9⟩
    · rw [a2]
      simp only [Option.bind]
      exact Ok.yes (by trivial) (J5 (f kk, 0, []) f c h hFull hfr)
    · rw [a2]
      simp only [Option.bind]
      exact Ok.no (by omega) (Ok.yes (by trivial) (J5 (0, 7, []) f c h hFull hfr))
    · rw [a2]
      simp only [Option.bind]
      refine Ok.yes (by trivial) (J5 (b, 0, m) (upd f kk b) c' a4 (fun hc' => ?_) fun z hz => ?_)
      · rcases a7 with ⟨e, hor⟩ | ⟨_, hk4, _, _⟩
        · rcases Nat.lt_or_ge kk 4 with h4 | h4
          · obtain ⟨j, j1, j2, j3⟩ := hFull (by omega)
            exact ⟨j, j1, j2, by rw [upd_ne (by omega)]; exact j3⟩
          · exact ⟨kk, by omega, h4, by rw [upd_at]; omega⟩
        · exact ⟨kk, by omega, hk4, by rw [upd_at]; omega⟩
      · have hc0 : 0 ≤ c' := a4.rc.1
        simp only
        rw [a9 z (by omega) (by omega) (by omega) (by omega)]
        exact hfr z hz
  · unfold blocksback_J2
    rw [e2, ← hgb]
    refine Ok.need (by omega) (Ok.yes (by rw [h.iget]) ?_)
    obtain ⟨m, c', a1, a2, a3, a4, a5⟩ := h.cut (a := 0) (by omega) (by simp)
    rw [show (0 : Int) = ((0 : Nat) : Int) from rfl, a1]
    simp only [Option.bind]
    refine Ok.yes (by trivial) ?_
    have hz0 : ∀ j, j < 12 → cutF f 0 12 j = 0 := fun j hj => by unfold cutF; rw [if_pos (by omega)]
    have hc' : c' = 0 := by
      apply Classical.byContradiction
      intro hne
      obtain ⟨j, j1, _, j3⟩ := a4 hFull hne
      exact j3 (hz0 j j1)
    subst hc'
    rw [a3.list]
    simp only
    have hown : ownF (cutF f 0 12) 0 = [] := by
      refine List.eq_nil_iff_forall_not_mem.2 fun x hx => ?_
      obtain ⟨x1, x2⟩ := mem_ownF.1 hx
      rcases x2 with ⟨j, j1, j2⟩ | x2
      · have := hz0 j j1; omega
      · omega
    rw [hown]
    have hvl := vflat_length q m
    refine Ok.yes rfl (Ok.yes (by omega) ?_)
    have hfr2 : ∀ z, z < 480 ∨ (488 ≤ z ∧ z < 520 ∧ ¬ (508 ≤ z ∧ z ≤ 512)) → vget q m z = vget (fmtW 1 2 gb) [] z := fun z hz => by
      rw [a5 z (by omega)]
      exact hfr z hz
    have same : ∀ z, 0 ≤ z → z < 520 → vget q m z = vget (fmtW 1 2 gb) [] z := by
      intro z z1 z2
      by_cases hmz : 480 ≤ z ∧ z < 488
      · refine bitI_ext (a3.dk.vr z) (hF.dk.vr z) fun j hj => ?_
        have b1 := a3.bits (64 * (z - 480).toNat + j) (by omega)
        have b2 := hF.bits (64 * (z - 480).toNat + j) (by omega)
        have e1 : ∀ (im : List Int) (ll : List (Int × Int)), mbits im ll 480 (64 * (z - 480).toNat + j) = bitI (vget im ll z) j := fun im ll => by
          unfold mbits
          rw [show (64 * (z - 480).toNat + j) / 64 = (z - 480).toNat by omega, show (64 * (z - 480).toNat + j) % 64 = j by omega, show (480 : Int) + (((z - 480).toNat : Nat) : Int) = z by omega]
        rw [e1] at b1 b2
        rw [Bool.eq_iff_iff, b1, b2]
        constructor
        · rintro (x | ⟨i, i1, i2⟩ | x | x)
          · exact .inl x
          · have := hz0 i i1; exact .inl (by omega)
          · exact .inl (by omega)
          · exact x.elim
        · rintro (x | ⟨i, i1, i2⟩ | x | x)
          · exact .inl x
          · exact .inl (by omega)
          · exact .inl (by omega)
          · exact x.elim
      · by_cases hwz : 508 ≤ z ∧ z ≤ 512
        · by_cases h8 : z = 512
          · have x1 := a3.w8
            have x2 := hF.w8
            rw [show (496 : Int) + 16 * 1 = 512 from rfl] at x1 x2
            rw [h8, x1, x2]
          · have x1 := a3.wd (z - 508).toNat (by omega)
            have x2 := hF.wd (z - 508).toNat (by omega)
            rw [show (492 : Int) + 16 * 1 + (((z - 508).toNat : Nat) : Int) = z by omega] at x1 x2
            rw [x1, x2, hz0 _ (by omega)]
        · exact hfr2 z (by omega)
    have hfl : (fmtW 1 2 gb).length = q.length := by omega
    refine Ok.iter (fun z => 0 ≤ z) (fun z => (520 - z).toNat) ?_ _ _ (by omega) (fuel_lt (by omega))
    intro k3 z z1 ih3
    unfold blocksback_B2
    rw [e2, ← hgb, show placeOf 9 1 2 gb 0 = 520 from (place9_in hM (by omega)).trans rfl]
    refine Ok.ite (fun hz => ?_) (fun hz => ?_)
    · refine Ok.need (by simp only; omega) (Ok.need (by omega) (Ok.yes ?_ (Ok.need (by omega) (ih3 _ (by omega) (by omega)))))
      obtain ⟨zn, rfl⟩ := Int.eq_ofNat_of_zero_le z1
      simp only
      rw [Int.toNat_natCast, vflat_get a3.dk.ok (by omega), ← vget_nil (show zn < (fmtW 1 2 gb).length by omega)]
      exact same _ z1 hz
    · refine Ok.need (by omega) (ih _ ⟨⟨cutF f 0 12, 0, a3.flat, fun x => absurd rfl x, fun z hz => ?_⟩, by simp only; omega, by simp only; omega⟩ (by simp only; omega))
      rw [vget_flat a3.dk.ok]
      exact hfr2 z hz
end Go.Proofs.YtmmclabkkigiaaaDoor
