/- Texts, one behind the other: A3h, Tl, A5h, A5i, A5j, K15, A5l, A5W, P5w, PEa, PEb, Qa. -/
import Derived.Test.YtmmclabkkigiaaaGreatDoorQET5
set_option linter.unusedVariables false
set_option linter.unusedSimpArgs false
set_option linter.unusedVariables false
set_option maxRecDepth 20000
set_option maxHeartbeats 4000000
namespace Go.Proofs.YtmmclabkkigiaaaGreatDoor
open Go Go.RowKit
set_option linter.unusedSimpArgs false
set_option linter.unusedVariables false

def bTake_J2 (img : List Int) (gw : Int) (gi : Int) (gb : Int) (l55 : List (Int × Int)) (p56 : Int) : Option (Int × Int × List (Int × Int)) :=
 (btake_M img l55 gw gi gb p56).bind fun r60 =>
some (r60.1, r60.2.1, r60.2.2)

def bTake_J3 (img : List Int) (gw : Int) (gi : Int) (gb : Int) (l131 : List (Int × Int)) (p132 : Int) : Option (Int × Int × List (Int × Int)) :=
 (btake_M img l131 gw gi gb p132).bind fun r136 =>
some (r136.1, r136.2.1, r136.2.2)

def bTake_J1 (img : List Int) (l : List (Int × Int)) (gw : Int) (gi : Int) (gb : Int) (n_ : Int) (k_ : Int) (r3 : Int × Int) (p9 : Bool) : Option (Int × Int × List (Int × Int)) :=
 if p9 = true then (some (r3.1, r3.2, l)) else (need ((img.length : Int) ≤ 1000000000000) <|
if May gw gi gb ∧ wordsOf gw gi gb ≤ (img.length : Int) then ((afree_M img l gi gb (placeOf 6 gw gi gb 0) (placeOf 7 gw gi gb 0)).bind fun r33 =>
(bneed_M img l gw gi gb n_ k_).bind fun r39 =>
if r33.2 < r39 then (some (0, 7, l)) else ((bword_M img l gw gi gb n_ k_).bind fun r50 =>
if r50.2 = true then (bTake_J2 img gw gi gb l r50.1) else ((bown_M gw gi gb n_ 8).bind fun r77 =>
(btake_M img l gw gi gb r77).bind fun r82 =>
if r82.2.1 = 0 then ((bword_M img r82.2.2 gw gi gb n_ k_).bind fun r91 =>
bTake_J2 img gw gi gb r82.2.2 r91.1) else (some (0, r82.2.1, r82.2.2))))) else (if (if May gw gi gb then (8 : Int) else 1) = 0 then ((bneed_M img l gw gi gb n_ k_).bind fun r117 =>
if 0 < r117 then (some (0, 7, l)) else ((bword_M img l gw gi gb n_ k_).bind fun r126 =>
if r126.2 = true then (bTake_J3 img gw gi gb l r126.1) else ((bown_M gw gi gb n_ 8).bind fun r146 =>
(btake_M img l gw gi gb r146).bind fun r151 =>
if r151.2.1 = 0 then ((bword_M img r151.2.2 gw gi gb n_ k_).bind fun r159 =>
bTake_J3 img gw gi gb r151.2.2 r159.1) else (some (0, r151.2.1, r151.2.2))))) else ((some (if May gw gi gb then (8 : Int) else 1)).bind fun r167 =>
some (0, r167, l))))

def bTake_M (img : List Int) (l : List (Int × Int)) (gw : Int) (gi : Int) (gb : Int) (n_ : Int) (k_ : Int) : Option (Int × Int × List (Int × Int)) :=
 (bat_M img l gw gi gb n_ k_).bind fun r3 =>
if r3.2 = 0 then (bTake_J1 img l gw gi gb n_ k_ r3 (!decide (r3.1 = 0))) else (bTake_J1 img l gw gi gb n_ k_ r3 true)

theorem bTake_walk {img : List Int} {l : List (Int × Int)} {gw : Int} {gi : Int} {gb : Int} {n_ : Int} {k_ : Int} {mb vb : Nat} {r : Int × Int × List (Int × Int)} (B : Nat) (w : World) (hG : 1 < B) (hT : CellsAt (some ⟨1, 0, none⟩) tab8 w) (hm : bTake_M img l gw gi gb n_ k_ = some r) : Spec Tryz.prog 87 #[(.pointer (some ⟨mb, 0, none⟩)), (.int .i64 k_)] B w [blk mb (.cells [(.pointer (some ⟨vb, 0, none⟩)), (.int .i64 gw), (.int .i64 gi), (.int .i64 gb), (.int .i64 n_)].toArray 164 (0, 0)), viewA (ptr vb) img l] (fun v H' => v = (.tuple #[(.int .i64 r.1), (.int .i64 r.2.1)]) ∧ H' = [blk mb (.cells [(.pointer (some ⟨vb, 0, none⟩)), (.int .i64 gw), (.int .i64 gi), (.int .i64 gb), (.int .i64 n_)].toArray 164 (0, 0)), viewA (ptr vb) img r.2.2]) := by
 refine spec_W Tryz.func87 rfl fun l0 hs => ?_
 unfold bTake_M at hm
 refine W.sr fun K1 hK1 => ?_
 refine zE 2 (hK1 _ _ ?_)
 refine W.sr fun K2 hK2 => ?_
 refine zR 2 ?_
 obtain ⟨r3, h4, hm⟩ := bind_some hm
 refine zC00 hs (bat_walk (k_ := k_) (img := img) (l := l) (gw := gw) (gi := gi) (gb := gb) (n_ := n_) (hmb := (hs.heapAt 0 rfl)) (hv := (hs.entAt 1 rfl viewA_at)) (hm := h4) B _) fun w5 hs7 => ?_
 refine zE 5 (hK2 _ _ ?_)
 refine W.seq fun K8 hK8 => ?_
 refine W.seq_join (fun s_ w_ => ∃ (p9 : Bool), (∃ us, s_ = slots 83 [(0, (.pointer (some ⟨mb, 0, none⟩))), (1, (.int .i64 k_)), (6, (.int .i64 r3.1)), (7, (.int .i64 r3.2)), (26, (.bool p9))] us) ∧ St B w l0 w_ [viewA (ptr vb) img l, blk mb (.cells [(.pointer (some ⟨vb, 0, none⟩)), (.int .i64 gw), (.int .i64 gi), (.int .i64 gb), (.int .i64 n_)].toArray 164 (0, 0))] ∧ bTake_J1 img l gw gi gb n_ k_ r3 p9 = some r) ?_ ?_
 ·
  rintro _ w10 ⟨p9, ⟨us, rfl⟩, hs11, hm⟩
  unfold bTake_J1 at hm
  refine W.cond p9 (by kernel_rfl) (fun h12 => ?_) (fun h12 => ?_)
  ·
   have h12p : p9 = true := h12
   replace hm := ite_yes hm h12p
   refine W.sr fun K13 hK13 => ?_
   refine zE 4 (hK13 _ _ ?_)
   refine W.ret (ret_seq ?_)
   obtain rfl := some_inj hm
   have hs14 := St.f1 hs11
   refine ret_of (.tuple #[(.int .i64 r3.1), (.int .i64 r3.2)]) (by kernel_rfl) ⟨_, ⟨rfl, rfl⟩, hs14⟩
  ·
   have h12p : ¬ (p9 = true) := ne_true_of_eq_false h12
   replace hm := ite_no hm h12p
   refine W.skip ?_
   refine hK8 _ _ ?_
   refine W.seq fun K16 hK16 => ?_
   have hs17 := hs11.drew
   refine W.regionD [(0, 0), (1, 1), (2, 2), (4, 4), (0, 0), (16, 16), (32, 32), (64, 64), (136, 136), (256, 256), (512, 512), (512, 512), (2047, 1024), (8191, 2048)] (fun w_ => St B w l0 w_ [viewA (ptr vb) img l, blk mb (.cells [(.pointer (some ⟨vb, 0, none⟩)), (.int .i64 gw), (.int .i64 gi), (.int .i64 gb), (.int .i64 n_)].toArray 164 (0, 0))]) (by kernel_rfl) hs17 ?_
   refine any_val (v := (.pointer (some ⟨mb, 0, none⟩))) (v' := (.pointer (some ⟨mb, 0, none⟩))) 0 (by kernel_rfl) (fun _ => by kernel_rfl) rfl hs17 ?_
   refine any_val (v := (.pointer (some ⟨mb, 0, none⟩))) (v' := (.pointer (some ⟨mb, 0, none⟩))) 1 (by kernel_rfl) (fun _ => by kernel_rfl) rfl hs17 ?_
   refine any_val (v := (.pointer (some ⟨mb, 0, none⟩))) (v' := (.pointer (some ⟨mb, 0, none⟩))) 2 (by kernel_rfl) (fun _ => by kernel_rfl) rfl hs17 ?_
   refine any_R 3 (by kernel_rfl) (fun _ hS_ => runs_load (ad := ⟨mb, 0, none⟩) (v := (.pointer (some ⟨vb, 0, none⟩))) (by kernel_rfl) (hS_.cellAt 1 rfl rfl)) hs17 ?_
   refine any_val (v := (.pointer (some ⟨mb, 0, none⟩))) (v' := (.pointer (some ⟨mb, 0, none⟩))) 4 (by kernel_rfl) (fun _ => by kernel_rfl) rfl hs17 ?_
   refine any_val (v := (.pointer (some ⟨mb, 0, none⟩))) (v' := (.pointer (some ⟨mb, 0, none⟩))) 5 (by kernel_rfl) (fun _ => by kernel_rfl) rfl hs17 ?_
   refine any_val (v := (.pointer (some ⟨mb, 1, none⟩))) (v' := (.pointer (some ⟨mb, 1, none⟩))) 6 (by kernel_rfl) (fun _ => by kernel_rfl) rfl hs17 ?_
   refine any_R 7 (by kernel_rfl) (fun _ hS_ => runs_loadAgg (ad := ⟨mb, 1, none⟩) (cs := [(.int .i64 gw), (.int .i64 gi), (.int .i64 gb)]) (by kernel_rfl) (cells_sub (hS_.heapAt 1 rfl) rfl)) hs17 ?_
   refine any_step 8 (by kernel_rfl) (by kernel_rfl) ?_
   obtain ⟨h18, hm⟩ := need_some hm
   rcases Bool.eq_false_or_eq_true (decide (May gw gi gb ∧ wordsOf gw gi gb ≤ (img.length : Int))) with h19 | h19
   ·
    obtain ⟨h19p, hm⟩ := iY hm h19
    refine ops_call0 hs17 (by kernel_rfl) (anew_ok (gw := gw) (gi := gi) (gb := gb) (hv := (hs17.entAt 0 rfl viewA_at)) (hz := h18) (hP := h19p) B _) ?_
    rintro _ _ w23 ⟨b20, b21, b22, rfl, rfl⟩ hs24
    have hs25 := St.ap3 hs24
    have hs26 := St.f4 hs25
    have hs27 := St.f4 hs26
    have hs28 := St.tk2 hs27
    refine ops_done (by kernel_rfl) ⟨hs28, ?_⟩
    refine any_val (v := (.tuple #[(.pointer (some ⟨b20, 0, none⟩)), (.int .i64 0)])) (v' := (.tuple #[(.pointer (some ⟨b20, 0, none⟩)), (.int .i64 0)])) 9 (by kernel_rfl) (fun _ => by kernel_rfl) rfl hs28 ?_
    refine any_val (v := (.pointer (some ⟨b20, 0, none⟩))) (v' := (.pointer (some ⟨b20, 0, none⟩))) 10 (by kernel_rfl) (fun _ => by kernel_rfl) rfl hs28 ?_
    refine any_val (v := (.int .i64 0)) (v' := (.int .i64 0)) 11 (by kernel_rfl) (fun _ => by kernel_rfl) rfl hs28 ?_
    refine any_val (v := (.pointer (some ⟨b20, 0, none⟩))) (v' := (.pointer (some ⟨b20, 0, none⟩))) 12 (by kernel_rfl) (fun _ => by kernel_rfl) rfl hs28 ?_
    refine any_val (v := (.int .i64 0)) (v' := (.int .i64 0)) 13 (by kernel_rfl) (fun _ => by kernel_rfl) rfl hs28 ?_
    refine any_done (by kernel_rfl) ?_
    refine hK16 _ _ ?_
    refine W.seq fun K29 hK29 => ?_
    refine W.sr fun K30 hK30 => ?_
    refine zE 2 (hK30 _ _ ?_)
    refine W.cond_false false (by kernel_rfl) rfl ?_
    refine W.skip ?_
    refine hK29 _ _ ?_
    refine W.seq fun K31 hK31 => ?_
    refine W.sr fun K32 hK32 => ?_
    refine zR 1 ?_
    obtain ⟨r33, h34, hm⟩ := bind_some hm
    refine zC00 hs25 (afree_walk (hab := (hs25.heapAt 0 rfl)) (hib := (hs25.heapAt 1 rfl)) (hbb := (hs25.heapAt 2 rfl)) (hv := (hs25.entAt 3 rfl viewA_at)) (hm := h34) B _) fun w35 hs37 => ?_
    refine zE 5 (hK32 _ _ ?_)
    refine W.sr fun K38 hK38 => ?_
    refine zR 3 ?_
    obtain ⟨r39, h40, hm⟩ := bind_some hm
    refine zC00 hs37 (bneed_walk (k_ := k_) (img := img) (l := l) (gw := gw) (gi := gi) (gb := gb) (n_ := n_) (hmb := (hs37.heapAt 4 rfl)) (hv := (hs37.entAt 3 rfl viewA_at)) (hm := h40) B _) fun w41 hs43 => ?_
    refine zE 1 (hK38 _ _ ?_)
    refine W.cond (decide (r33.2 < r39)) (by kernel_rfl) (fun h44 => ?_) (fun h44 => ?_)
    ·
     obtain ⟨h44p, hm⟩ := iY hm h44
     refine W.sr fun K45 hK45 => ?_
     refine zE 2 (hK45 _ _ ?_)
     refine W.ret (ret_seq ?_)
     obtain rfl := some_inj hm
     have hs46 := St.f3 hs43
     have hs47 := St.f4 hs46
     have hs48 := St.tk2 hs47
     refine ret_of (.tuple #[(.int .i64 0), (.int .i64 7)]) (by kernel_rfl) ⟨_, ⟨rfl, rfl⟩, hs48⟩
    ·
     obtain ⟨h44p, hm⟩ := iN hm h44
     refine W.skip ?_
     refine hK31 _ _ ?_
     refine W.sr fun K49 hK49 => ?_
     refine zR 2 ?_
     obtain ⟨r50, h51, hm⟩ := bind_some hm
     refine zC00 hs43 (bword_walk (k_ := k_) (img := img) (l := l) (gw := gw) (gi := gi) (gb := gb) (n_ := n_) (hmb := (hs43.heapAt 4 rfl)) (hv := (hs43.entAt 3 rfl viewA_at)) (hm := h51) B _) fun w52 hs54 => ?_
     refine zE 5 (hK49 _ _ ?_)
     refine W.seq_join (fun s_ w_ => ∃ (l55 : List (Int × Int)) (p56 : Int), (∃ us, s_ = slots 83 [(0, (.pointer (some ⟨mb, 0, none⟩))), (11, (.int .i64 p56))] us) ∧ St B w l0 w_ [viewA (ptr vb) img l55, blk mb (.cells [(.pointer (some ⟨vb, 0, none⟩)), (.int .i64 gw), (.int .i64 gi), (.int .i64 gb), (.int .i64 n_)].toArray 164 (0, 0)), blk b21 (.cells [(.pointer (some ⟨vb, 0, none⟩)), (.int .i64 (placeOf 6 gw gi gb 0)), (.int .i64 gi)].toArray 213 (0, 0)), blk b22 (.cells [(.pointer (some ⟨vb, 0, none⟩)), (.int .i64 (placeOf 7 gw gi gb 0)), (.int .i64 gb)].toArray 213 (0, 0)), blk b20 (.cells [(.pointer (some ⟨vb, 0, none⟩)), (.int .i64 gw), (.int .i64 gi), (.int .i64 gb), (.pointer (some ⟨b21, 0, none⟩)), (.int .i64 gi), (.pointer (some ⟨b22, 0, none⟩)), (.int .i64 gb)].toArray 208 (0, 0))] ∧ bTake_J2 img gw gi gb l55 p56 = some r) ?_ ?_
     ·
      rintro _ w57 ⟨l55, p56, ⟨us, rfl⟩, hs58, hm⟩
      unfold bTake_J2 at hm
      refine W.sr fun K59 hK59 => ?_
      refine zR 2 ?_
      obtain ⟨r60, h61, hm⟩ := bind_some hm
      have hs62 := St.f1 hs58
      refine zC22 hs62 (btake_walk (mb := mb) (vb := vb) (at_ := p56) (img := img) (l := l55) (gw := gw) (gi := gi) (gb := gb) (n_ := n_) (hG := hG) (hT := (hs58.oldCellsB hG hT)) (hm := h61) B _) fun w63 hs65 => ?_
      refine zE 4 (hK59 _ _ ?_)
      refine W.ret ?_
      obtain rfl := some_inj hm
      have hs66 := St.f1 hs65
      have hs67 := St.f1 hs66
      have hs68 := St.tk2 hs67
      refine ret_of (.tuple #[(.int .i64 r60.1), (.int .i64 r60.2.1)]) (by kernel_rfl) ⟨_, ⟨rfl, rfl⟩, hs68⟩
     ·
      refine W.sr fun K69 hK69 => ?_
      refine zE 2 (hK69 _ _ ?_)
      refine W.cond (!r50.2) (by kernel_rfl) (fun h70 => ?_) (fun h70 => ?_)
      rotate_left
      ·
       have h70p : r50.2 = true := (bnot_false h70)
       replace hm := ite_yes hm h70p
       refine W.skip ?_
       have hs71 := St.f2 hs54
       have hs72 := St.f2 hs71
       have hs73 := St.f4 hs72
       have hs74 := St.f4 hs73
       exact ⟨l, r50.1, slots_intro _ (by kernel_rfl), hs74, hm⟩
      ·
       have h70p : ¬ (r50.2 = true) := ne_true_of_eq_false (bnot_true h70)
       replace hm := ite_no hm h70p
       refine W.seq fun K75 hK75 => ?_
       refine W.sr fun K76 hK76 => ?_
       refine zR 2 ?_
       obtain ⟨r77, h78, hm⟩ := bind_some hm
       refine zC00 hs54 (bown_walk (w_ := 8) (img := img) (l := l) (gw := gw) (gi := gi) (gb := gb) (n_ := n_) (hmb := (hs54.heapAt 4 rfl)) (hv := (hs54.entAt 3 rfl viewA_at)) (hm := h78) B _) fun w79 hs81 => ?_
       obtain ⟨r82, h83, hm⟩ := bind_some hm
       have hs84 := St.f3 hs81
       have hs85 := St.f4 hs84
       refine zC22 hs85 (btake_walk (mb := mb) (vb := vb) (at_ := r77) (img := img) (l := l) (gw := gw) (gi := gi) (gb := gb) (n_ := n_) (hG := hG) (hT := (hs81.oldCellsB hG hT)) (hm := h83) B _) fun w86 hs88 => ?_
       refine zE 5 (hK76 _ _ ?_)
       refine W.sr fun K89 hK89 => ?_
       refine zE 2 (hK89 _ _ ?_)
       refine W.cond (!decide (r82.2.1 = 0)) (by kernel_rfl) (fun h90 => ?_) (fun h90 => ?_)
       rotate_left
       ·
        have h90p : r82.2.1 = 0 := of_decide_eq_true (bnot_false h90)
        replace hm := ite_yes hm h90p
        refine W.skip ?_
        refine hK75 _ _ ?_
        refine W.region ?_
        refine zR 2 ?_
        obtain ⟨r91, h92, hm⟩ := bind_some hm
        refine zC00 hs88 (bword_walk (k_ := k_) (img := img) (l := r82.2.2) (gw := gw) (gi := gi) (gb := gb) (n_ := n_) (hmb := (hs88.heapAt 0 rfl)) (hv := (hs88.entAt 1 rfl viewA_at)) (hm := h92) B _) fun w93 hs95 => ?_
        refine zE 4 ?_
        have hs96 := St.f2 hs95
        have hs97 := St.f4 hs96
        have hs98 := St.f4 hs97
        have hs99 := St.f3 hs98
        have hs100 := St.f4 hs99
        exact ⟨r82.2.2, r91.1, slots_intro _ (by kernel_rfl), hs100, hm⟩
       ·
        have h90p : ¬ (r82.2.1 = 0) := of_decide_eq_false (bnot_true h90)
        replace hm := ite_no hm h90p
        refine W.sr fun K101 hK101 => ?_
        refine zE 3 (hK101 _ _ ?_)
        refine W.ret (ret_seq (ret_seq ?_))
        obtain rfl := some_inj hm
        have hs102 := St.f1 hs88
        have hs103 := St.f1 hs102
        have hs104 := St.tk2 hs103
        refine ret_of (.tuple #[(.int .i64 0), (.int .i64 r82.2.1)]) (by kernel_rfl) ⟨_, ⟨rfl, rfl⟩, hs104⟩
   ·
    obtain ⟨h19p, hm⟩ := iN hm h19
    refine zC00 hs17 (anew_err (gw := gw) (gi := gi) (gb := gb) (hv := (hs17.entAt 0 rfl viewA_at)) (hz := h18) (hN := h19p) B _) fun w105 hs107 => ?_
    refine ops_done (by kernel_rfl) ⟨hs107, ?_⟩
    refine any_val (v := (.tuple #[(.pointer none), (.int .i64 (if May gw gi gb then (8 : Int) else 1))])) (v' := (.tuple #[(.pointer none), (.int .i64 (if May gw gi gb then (8 : Int) else 1))])) 9 (by kernel_rfl) (fun _ => by kernel_rfl) rfl hs107 ?_
    refine any_val (v := (.pointer none)) (v' := (.pointer none)) 10 (by kernel_rfl) (fun _ => by kernel_rfl) rfl hs107 ?_
    refine any_val (v := (.int .i64 (if May gw gi gb then (8 : Int) else 1))) (v' := (.int .i64 (if May gw gi gb then (8 : Int) else 1))) 11 (by kernel_rfl) (fun _ => by kernel_rfl) rfl hs107 ?_
    refine any_val (v := (.pointer none)) (v' := (.pointer none)) 12 (by kernel_rfl) (fun _ => by kernel_rfl) rfl hs107 ?_
    refine any_val (v := (.int .i64 (if May gw gi gb then (8 : Int) else 1))) (v' := (.int .i64 (if May gw gi gb then (8 : Int) else 1))) 13 (by kernel_rfl) (fun _ => by kernel_rfl) rfl hs107 ?_
    refine any_done (by kernel_rfl) ?_
    refine hK16 _ _ ?_
    refine W.seq fun K108 hK108 => ?_
    refine W.sr fun K109 hK109 => ?_
    refine zE 2 (hK109 _ _ ?_)
    refine W.cond (!decide ((if May gw gi gb then (8 : Int) else 1) = 0)) (by kernel_rfl) (fun h110 => ?_) (fun h110 => ?_)
    rotate_left
    ·
     have h110p : (if May gw gi gb then (8 : Int) else 1) = 0 := of_decide_eq_true (bnot_false h110)
     replace hm := ite_yes hm h110p
     refine W.skip ?_
     refine hK108 _ _ ?_
     refine W.seq fun K111 hK111 => ?_
     refine W.sr fun K112 hK112 => ?_
     refine zR 1 ?_
     refine zC00 hs107 (afree_nil B _) fun w113 hs115 => ?_
     refine zE 5 (hK112 _ _ ?_)
     refine W.sr fun K116 hK116 => ?_
     refine zR 3 ?_
     obtain ⟨r117, h118, hm⟩ := bind_some hm
     refine zC00 hs115 (bneed_walk (k_ := k_) (img := img) (l := l) (gw := gw) (gi := gi) (gb := gb) (n_ := n_) (hmb := (hs115.heapAt 1 rfl)) (hv := (hs115.entAt 0 rfl viewA_at)) (hm := h118) B _) fun w119 hs121 => ?_
     refine zE 1 (hK116 _ _ ?_)
     refine W.cond (decide (0 < r117)) (by kernel_rfl) (fun h122 => ?_) (fun h122 => ?_)
     ·
      obtain ⟨h122p, hm⟩ := iY hm h122
      refine W.sr fun K123 hK123 => ?_
      refine zE 2 (hK123 _ _ ?_)
      refine W.ret (ret_seq ?_)
      obtain rfl := some_inj hm
      have hs124 := St.f1 hs121
      refine ret_of (.tuple #[(.int .i64 0), (.int .i64 7)]) (by kernel_rfl) ⟨_, ⟨rfl, rfl⟩, hs124⟩
     ·
      obtain ⟨h122p, hm⟩ := iN hm h122
      refine W.skip ?_
      refine hK111 _ _ ?_
      refine W.sr fun K125 hK125 => ?_
      refine zR 2 ?_
      obtain ⟨r126, h127, hm⟩ := bind_some hm
      refine zC00 hs121 (bword_walk (k_ := k_) (img := img) (l := l) (gw := gw) (gi := gi) (gb := gb) (n_ := n_) (hmb := (hs121.heapAt 1 rfl)) (hv := (hs121.entAt 0 rfl viewA_at)) (hm := h127) B _) fun w128 hs130 => ?_
      refine zE 5 (hK125 _ _ ?_)
      refine W.seq_join (fun s_ w_ => ∃ (l131 : List (Int × Int)) (p132 : Int), (∃ us, s_ = slots 83 [(0, (.pointer (some ⟨mb, 0, none⟩))), (11, (.int .i64 p132))] us) ∧ St B w l0 w_ [viewA (ptr vb) img l131, blk mb (.cells [(.pointer (some ⟨vb, 0, none⟩)), (.int .i64 gw), (.int .i64 gi), (.int .i64 gb), (.int .i64 n_)].toArray 164 (0, 0))] ∧ bTake_J3 img gw gi gb l131 p132 = some r) ?_ ?_
      ·
       rintro _ w133 ⟨l131, p132, ⟨us, rfl⟩, hs134, hm⟩
       unfold bTake_J3 at hm
       refine W.sr fun K135 hK135 => ?_
       refine zR 2 ?_
       obtain ⟨r136, h137, hm⟩ := bind_some hm
       have hs138 := St.f1 hs134
       refine zC22 hs138 (btake_walk (mb := mb) (vb := vb) (at_ := p132) (img := img) (l := l131) (gw := gw) (gi := gi) (gb := gb) (n_ := n_) (hG := hG) (hT := (hs134.oldCellsB hG hT)) (hm := h137) B _) fun w139 hs141 => ?_
       refine zE 4 (hK135 _ _ ?_)
       refine W.ret ?_
       obtain rfl := some_inj hm
       refine ret_of (.tuple #[(.int .i64 r136.1), (.int .i64 r136.2.1)]) (by kernel_rfl) ⟨_, ⟨rfl, rfl⟩, hs141⟩
      ·
       refine W.sr fun K142 hK142 => ?_
       refine zE 2 (hK142 _ _ ?_)
       refine W.cond (!r126.2) (by kernel_rfl) (fun h143 => ?_) (fun h143 => ?_)
       rotate_left
       ·
        have h143p : r126.2 = true := (bnot_false h143)
        replace hm := ite_yes hm h143p
        refine W.skip ?_
        exact ⟨l, r126.1, slots_intro _ (by kernel_rfl), hs130, hm⟩
       ·
        have h143p : ¬ (r126.2 = true) := ne_true_of_eq_false (bnot_true h143)
        replace hm := ite_no hm h143p
        refine W.seq fun K144 hK144 => ?_
        refine W.sr fun K145 hK145 => ?_
        refine zR 2 ?_
        obtain ⟨r146, h147, hm⟩ := bind_some hm
        refine zC00 hs130 (bown_walk (w_ := 8) (img := img) (l := l) (gw := gw) (gi := gi) (gb := gb) (n_ := n_) (hmb := (hs130.heapAt 1 rfl)) (hv := (hs130.entAt 0 rfl viewA_at)) (hm := h147) B _) fun w148 hs150 => ?_
        obtain ⟨r151, h152, hm⟩ := bind_some hm
        have hs153 := St.f1 hs150
        refine zC22 hs153 (btake_walk (mb := mb) (vb := vb) (at_ := r146) (img := img) (l := l) (gw := gw) (gi := gi) (gb := gb) (n_ := n_) (hG := hG) (hT := (hs150.oldCellsB hG hT)) (hm := h152) B _) fun w154 hs156 => ?_
        refine zE 5 (hK145 _ _ ?_)
        refine W.sr fun K157 hK157 => ?_
        refine zE 2 (hK157 _ _ ?_)
        refine W.cond (!decide (r151.2.1 = 0)) (by kernel_rfl) (fun h158 => ?_) (fun h158 => ?_)
        rotate_left
        ·
         have h158p : r151.2.1 = 0 := of_decide_eq_true (bnot_false h158)
         replace hm := ite_yes hm h158p
         refine W.skip ?_
         refine hK144 _ _ ?_
         refine W.region ?_
         refine zR 2 ?_
         obtain ⟨r159, h160, hm⟩ := bind_some hm
         refine zC00 hs156 (bword_walk (k_ := k_) (img := img) (l := r151.2.2) (gw := gw) (gi := gi) (gb := gb) (n_ := n_) (hmb := (hs156.heapAt 0 rfl)) (hv := (hs156.entAt 1 rfl viewA_at)) (hm := h160) B _) fun w161 hs163 => ?_
         refine zE 4 ?_
         have hs164 := St.f1 hs163
         exact ⟨r151.2.2, r159.1, slots_intro _ (by kernel_rfl), hs164, hm⟩
        ·
         have h158p : ¬ (r151.2.1 = 0) := of_decide_eq_false (bnot_true h158)
         replace hm := ite_no hm h158p
         refine W.sr fun K165 hK165 => ?_
         refine zE 3 (hK165 _ _ ?_)
         refine W.ret (ret_seq (ret_seq ?_))
         obtain rfl := some_inj hm
         refine ret_of (.tuple #[(.int .i64 0), (.int .i64 r151.2.1)]) (by kernel_rfl) ⟨_, ⟨rfl, rfl⟩, hs156⟩
    ·
     have h110p : ¬ ((if May gw gi gb then (8 : Int) else 1) = 0) := of_decide_eq_false (bnot_true h110)
     replace hm := ite_no hm h110p
     refine W.sr fun K166 hK166 => ?_
     refine zR 3 ?_
     obtain ⟨r167, h168, hm⟩ := bind_some hm
     replace h168 := some_inj h168
     refine ops_set 5 (v := .int .i64 r167) (Eq.trans (by kernel_rfl) (congrArg (Value.int .i64) h168)) ?_
     refine zD (hK166 _ _ ?_)
     refine W.ret (ret_seq ?_)
     obtain rfl := some_inj hm
     have hs169 := St.f1 hs107
     refine ret_of (.tuple #[(.int .i64 0), (.int .i64 r167)]) (by kernel_rfl) ⟨_, ⟨rfl, rfl⟩, hs169⟩
 ·
  refine W.region ?_
  refine zR 3 ?_
  rcases Bool.eq_false_or_eq_true (!decide (r3.2 = 0)) with h170 | h170
  rotate_left
  ·
   have h170p : r3.2 = 0 := of_decide_eq_true (bnot_false h170)
   replace hm := ite_yes hm h170p
   refine zS 23 h170 ?_
   refine zS 22 h170 ?_
   refine zE 3 ?_
   have hs171 := St.f1 hs7
   exact ⟨(!decide (r3.1 = 0)), slots_intro _ (by kernel_rfl), hs171, hm⟩
  ·
   have h170p : ¬ (r3.2 = 0) := of_decide_eq_false (bnot_true h170)
   replace hm := ite_no hm h170p
   refine zS 23 h170 ?_
   refine zS 22 h170 ?_
   refine zE 3 ?_
   have hs172 := St.f1 hs7
   exact ⟨true, slots_intro _ (by kernel_rfl), hs172, hm⟩

def bDrop_J1 (img : List Int) (gw : Int) (gi : Int) (gb : Int) (n_ : Int) (r21 : Int × List (Int × Int)) (r32 : Int) (p37 : Bool) : Option (Int × List (Int × Int)) :=
 if p37 = true then ((bown_M gw gi gb n_ 8).bind fun r42 =>
(bgive_M img r21.2 gw gi gb r42 r32).bind fun r47 =>
some (r47.1, r47.2)) else (some (0, r21.2))

def bDrop_M (img : List Int) (l : List (Int × Int)) (gw : Int) (gi : Int) (gb : Int) (n_ : Int) (k_ : Int) : Option (Int × List (Int × Int)) :=
 (bat_M img l gw gi gb n_ k_).bind fun r3 =>
if r3.2 = 0 then (if r3.1 = 0 then (some (r3.2, l)) else ((bword_M img l gw gi gb n_ k_).bind fun r14 =>
(bgive_M img l gw gi gb r14.1 r3.1).bind fun r21 =>
if r21.1 = 0 then ((bchain_M img r21.2 gw gi gb n_).bind fun r32 =>
if r32 = 0 then (bDrop_J1 img gw gi gb n_ r21 r32 false) else ((bbare_M img r21.2 gw gi gb r32).bind fun r57 =>
bDrop_J1 img gw gi gb n_ r21 r32 r57)) else (some (r21.1, r21.2)))) else (some (r3.2, l))

theorem bDrop_walk {img : List Int} {l : List (Int × Int)} {gw : Int} {gi : Int} {gb : Int} {n_ : Int} {k_ : Int} {mb vb : Nat} {r : Int × List (Int × Int)} (B : Nat) (w : World) (hm : bDrop_M img l gw gi gb n_ k_ = some r) : Spec Tryz.prog 60 #[(.pointer (some ⟨mb, 0, none⟩)), (.int .i64 k_)] B w [blk mb (.cells [(.pointer (some ⟨vb, 0, none⟩)), (.int .i64 gw), (.int .i64 gi), (.int .i64 gb), (.int .i64 n_)].toArray 164 (0, 0)), viewA (ptr vb) img l] (fun v H' => v = (.int .i64 r.1) ∧ H' = [blk mb (.cells [(.pointer (some ⟨vb, 0, none⟩)), (.int .i64 gw), (.int .i64 gi), (.int .i64 gb), (.int .i64 n_)].toArray 164 (0, 0)), viewA (ptr vb) img r.2]) := by
 refine spec_W Tryz.func60 rfl fun l0 hs => ?_
 unfold bDrop_M at hm
 refine W.sr fun K1 hK1 => ?_
 refine zE 1 (hK1 _ _ ?_)
 refine W.sr fun K2 hK2 => ?_
 refine zR 2 ?_
 obtain ⟨r3, h4, hm⟩ := bind_some hm
 refine zC00 hs (bat_walk (k_ := k_) (img := img) (l := l) (gw := gw) (gi := gi) (gb := gb) (n_ := n_) (hmb := (hs.heapAt 0 rfl)) (hv := (hs.entAt 1 rfl viewA_at)) (hm := h4) B _) fun w5 hs7 => ?_
 refine zE 5 (hK2 _ _ ?_)
 refine W.seq fun K8 hK8 => ?_
 refine W.sr fun K9 hK9 => ?_
 refine zR 3 ?_
 rcases Bool.eq_false_or_eq_true (!decide (r3.2 = 0)) with h10 | h10
 rotate_left
 ·
  have h10p : r3.2 = 0 := of_decide_eq_true (bnot_false h10)
  replace hm := ite_yes hm h10p
  refine zS 19 h10 ?_
  refine zS 18 h10 ?_
  refine zE 3 (hK9 _ _ ?_)
  refine W.cond (decide (r3.1 = 0)) (by kernel_rfl) (fun h11 => ?_) (fun h11 => ?_)
  ·
   obtain ⟨h11p, hm⟩ := iY hm h11
   refine W.sr fun K12 hK12 => ?_
   refine zE 2 (hK12 _ _ ?_)
   refine W.ret (ret_seq ?_)
   obtain rfl := some_inj hm
   refine ret_of (.int .i64 r3.2) (by kernel_rfl) ⟨_, ⟨rfl, rfl⟩, hs7⟩
  ·
   obtain ⟨h11p, hm⟩ := iN hm h11
   refine W.skip ?_
   refine hK8 _ _ ?_
   refine W.sr fun K13 hK13 => ?_
   refine zR 2 ?_
   obtain ⟨r14, h15, hm⟩ := bind_some hm
   refine zC00 hs7 (bword_walk (k_ := k_) (img := img) (l := l) (gw := gw) (gi := gi) (gb := gb) (n_ := n_) (hmb := (hs7.heapAt 0 rfl)) (hv := (hs7.entAt 1 rfl viewA_at)) (hm := h15) B _) fun w16 hs18 => ?_
   refine zE 5 (hK13 _ _ ?_)
   refine W.seq fun K19 hK19 => ?_
   refine W.sr fun K20 hK20 => ?_
   refine zR 3 ?_
   obtain ⟨r21, h22, hm⟩ := bind_some hm
   have hs23 := St.f1 hs18
   have hs24 := St.f1 hs23
   refine zC22 hs24 (bgive_walk (mb := mb) (vb := vb) (at_ := r14.1) (b_ := r3.1) (img := img) (l := l) (gw := gw) (gi := gi) (gb := gb) (n_ := n_) (hm := h22) B _) fun w25 hs27 => ?_
   refine zE 1 (hK20 _ _ ?_)
   refine W.sr fun K28 hK28 => ?_
   refine zE 2 (hK28 _ _ ?_)
   refine W.cond (!decide (r21.1 = 0)) (by kernel_rfl) (fun h29 => ?_) (fun h29 => ?_)
   rotate_left
   ·
    have h29p : r21.1 = 0 := of_decide_eq_true (bnot_false h29)
    replace hm := ite_yes hm h29p
    refine W.skip ?_
    refine hK19 _ _ ?_
    refine W.seq fun K30 hK30 => ?_
    refine W.sr fun K31 hK31 => ?_
    refine zR 1 ?_
    obtain ⟨r32, h33, hm⟩ := bind_some hm
    refine zC00 hs27 (bchain_walk (img := img) (l := r21.2) (gw := gw) (gi := gi) (gb := gb) (n_ := n_) (hmb := (hs27.heapAt 0 rfl)) (hv := (hs27.entAt 1 rfl viewA_at)) (hm := h33) B _) fun w34 hs36 => ?_
    refine zE 1 (hK31 _ _ ?_)
    refine W.seq_join (fun s_ w_ => ∃ (p37 : Bool), (∃ us, s_ = slots 51 [(0, (.pointer (some ⟨mb, 0, none⟩))), (10, (.int .i64 r32)), (45, (.bool p37))] us) ∧ St B w l0 w_ [viewA (ptr vb) img r21.2, blk mb (.cells [(.pointer (some ⟨vb, 0, none⟩)), (.int .i64 gw), (.int .i64 gi), (.int .i64 gb), (.int .i64 n_)].toArray 164 (0, 0))] ∧ bDrop_J1 img gw gi gb n_ r21 r32 p37 = some r) ?_ ?_
    ·
     rintro _ w38 ⟨p37, ⟨us, rfl⟩, hs39, hm⟩
     unfold bDrop_J1 at hm
     refine W.cond p37 (by kernel_rfl) (fun h40 => ?_) (fun h40 => ?_)
     ·
      have h40p : p37 = true := h40
      replace hm := ite_yes hm h40p
      refine W.sr fun K41 hK41 => ?_
      refine zR 2 ?_
      obtain ⟨r42, h43, hm⟩ := bind_some hm
      refine zC00 hs39 (bown_walk (w_ := 8) (img := img) (l := r21.2) (gw := gw) (gi := gi) (gb := gb) (n_ := n_) (hmb := (hs39.heapAt 1 rfl)) (hv := (hs39.entAt 0 rfl viewA_at)) (hm := h43) B _) fun w44 hs46 => ?_
      refine zR 1 ?_
      obtain ⟨r47, h48, hm⟩ := bind_some hm
      have hs49 := St.f1 hs46
      refine zC22 hs49 (bgive_walk (mb := mb) (vb := vb) (at_ := r42) (b_ := r32) (img := img) (l := r21.2) (gw := gw) (gi := gi) (gb := gb) (n_ := n_) (hm := h48) B _) fun w50 hs52 => ?_
      refine zE 1 (hK41 _ _ ?_)
      refine W.ret (ret_seq ?_)
      obtain rfl := some_inj hm
      refine ret_of (.int .i64 r47.1) (by kernel_rfl) ⟨_, ⟨rfl, rfl⟩, hs52⟩
     ·
      have h40p : ¬ (p37 = true) := ne_true_of_eq_false h40
      replace hm := ite_no hm h40p
      refine W.skip ?_
      refine hK30 _ _ ?_
      refine W.sr fun K53 hK53 => ?_
      refine zE 1 (hK53 _ _ ?_)
      refine W.ret ?_
      obtain rfl := some_inj hm
      have hs54 := St.f1 hs39
      refine ret_of (.int .i64 0) (by kernel_rfl) ⟨_, ⟨rfl, rfl⟩, hs54⟩
    ·
     refine W.region ?_
     refine zR 3 ?_
     rcases Bool.eq_false_or_eq_true (!decide (r32 = 0)) with h55 | h55
     rotate_left
     ·
      have h55p : r32 = 0 := of_decide_eq_true (bnot_false h55)
      replace hm := ite_yes hm h55p
      refine zS 41 h55 ?_
      refine zS 40 h55 ?_
      refine zE 4 ?_
      have hs56 := St.f1 hs36
      exact ⟨false, slots_intro _ (by kernel_rfl), hs56, hm⟩
     ·
      have h55p : ¬ (r32 = 0) := of_decide_eq_false (bnot_true h55)
      replace hm := ite_no hm h55p
      refine zS 41 h55 ?_
      refine zS 40 h55 ?_
      refine zR 2 ?_
      obtain ⟨r57, h58, hm⟩ := bind_some hm
      refine zC00 hs36 (bbare_walk (b_ := r32) (img := img) (l := r21.2) (gw := gw) (gi := gi) (gb := gb) (n_ := n_) (hmb := (hs36.heapAt 0 rfl)) (hv := (hs36.entAt 1 rfl viewA_at)) (hm := h58) B _) fun w59 hs61 => ?_
      refine zE 1 ?_
      have hs62 := St.f1 hs61
      exact ⟨r57, slots_intro _ (by kernel_rfl), hs62, hm⟩
   ·
    have h29p : ¬ (r21.1 = 0) := of_decide_eq_false (bnot_true h29)
    replace hm := ite_no hm h29p
    refine W.sr fun K63 hK63 => ?_
    refine zE 2 (hK63 _ _ ?_)
    refine W.ret (ret_seq ?_)
    obtain rfl := some_inj hm
    refine ret_of (.int .i64 r21.1) (by kernel_rfl) ⟨_, ⟨rfl, rfl⟩, hs27⟩
 ·
  have h10p : ¬ (r3.2 = 0) := of_decide_eq_false (bnot_true h10)
  replace hm := ite_no hm h10p
  refine zS 19 h10 ?_
  refine zS 18 h10 ?_
  refine zE 3 (hK9 _ _ ?_)
  refine W.cond_true true (by kernel_rfl) rfl ?_
  refine W.sr fun K64 hK64 => ?_
  refine zE 2 (hK64 _ _ ?_)
  refine W.ret (ret_seq ?_)
  obtain rfl := some_inj hm
  refine ret_of (.int .i64 r3.2) (by kernel_rfl) ⟨_, ⟨rfl, rfl⟩, hs7⟩

end Go.Proofs.YtmmclabkkigiaaaGreatDoor

namespace Go.Proofs.YtmmclabkkigiaaaGreatDoor
open Go Go.RowKit
set_option linter.unusedVariables false
theorem St.addTab {B : Nat} {w0 w : World} {l0 : List Nat} {R : List Asn} {g : Nat} {cs : List Value} (hs : St B w0 l0 w R) (hG : g < B) (h : CellsAt (some ⟨g, 0, none⟩) cs w) : St B w0 l0 w (lowA (some ⟨g, 0, none⟩) cs :: R) :=
  St.step0 (post := [lowA (some ⟨g, 0, none⟩) cs]) hs ⟨[], ⟨[], [], ⟨rfl, fun e => (by cases e), fun ad ha j v hj => (by cases ha; exact ⟨hG, h j v hj⟩)⟩, fun b => by simp, fun b => by simp, by simp⟩, Upd.refl w []⟩
theorem low_at {B : Nat} {w : World} {l : List Nat} {ad : Addr} {cs : List Value} (h : (lowA (some ad) cs).P B w l) : CellsAt (some ad) cs w := fun j v hj => (h.2.2 ad rfl j v hj).2
end Go.Proofs.YtmmclabkkigiaaaGreatDoor

set_option linter.unusedVariables false
set_option maxRecDepth 20000
set_option maxHeartbeats 8000000
namespace Go.Proofs.YtmmclabkkigiaaaGreatDoor
open Go Go.RowKit
set_option linter.unusedSimpArgs false
set_option linter.unusedVariables false

def tadd_D27 (l : List (Int × Int)) : Option (Int × List (Int × Int)) :=
 some (16, l)

def tadd_X27 (p28 : Int) (l29 : List (Int × Int)) : Option (Int × List (Int × Int)) :=
 some (p28, l29)

def tadd_B0 (img : List Int) (gw : Int) (gi : Int) (gb : Int) (r94 : Int × Int × List (Int × Int)) (q107 : List Int) (p108 : Int) (k113 : ((List (Int × Int)) × Int) → Option (Int × List (Int × Int))) (l111 : List (Int × Int)) (p112 : Int) : Option (Int × List (Int × Int)) :=
 if p112 < p108 then (need (0 ≤ p112 ∧ p112 < (q107.length : Int)) <|
need (-9223372036854775808 ≤ ((placeOf 9 gw gi gb r94.1) + p112) ∧ ((placeOf 9 gw gi gb r94.1) + p112) ≤ 9223372036854775807) <|
if (vwrite img l111 ((placeOf 9 gw gi gb r94.1) + p112) (q107.getD p112.toNat 0)).1 = 0 then (need (-9223372036854775808 ≤ (p112 + 1) ∧ (p112 + 1) ≤ 9223372036854775807) <|
k113 ((vwrite img l111 ((placeOf 9 gw gi gb r94.1) + p112) (q107.getD p112.toNat 0)).2, (p112 + 1))) else (tadd_X27 ((vwrite img l111 ((placeOf 9 gw gi gb r94.1) + p112) (q107.getD p112.toNat 0)).1) ((vwrite img l111 ((placeOf 9 gw gi gb r94.1) + p112) (q107.getD p112.toNat 0)).2))) else (tadd_X27 0 l111)

def tadd_J4 (img : List Int) (gw : Int) (gi : Int) (gb : Int) (r94 : Int × Int × List (Int × Int)) (q107 : List Int) (p108 : Int) : Option (Int × List (Int × Int)) :=
 iter (fun k_ s_ => tadd_B0 img gw gi gb r94 q107 p108 k_ s_.1 s_.2) FUEL (r94.2.2, 0)

def tadd_R27 (img : List Int) (l : List (Int × Int)) (gw : Int) (gi : Int) (gb : Int) (n_ : Int) (xn_ : ByteArray) (xi_ : Int) (r14 : Int) (k25 : Nat) (c26 : Unit → Option (Int × List (Int × Int))) : Option (Int × List (Int × Int)) :=
 (some (((r14 : Int) + (k25 : Int)) % 12)).bind fun r79 =>
(bat_M img l gw gi gb n_ r79).bind fun r85 =>
if r85.1 = 0 then (if r85.2 = 0 then ((bTake_M img l gw gi gb n_ r79).bind fun r94 =>
if r94.2.1 = 0 then (need (0 ≤ xi_ ∧ xi_ ≤ 18446744073709551615) <|
need (0 ≤ (xn_.size : Int) ∧ (xn_.size : Int) ≤ 18446744073709551615) <|
(opack_M xn_).bind fun r202 =>
need (r202.length ≤ 1000000) <|
tadd_J4 img gw gi gb r94 ([xi_, (xn_.size : Int)] ++ r202) ((([xi_, (xn_.size : Int)] ++ r202).length) : Int)) else (tadd_X27 r94.2.1 r94.2.2)) else (c26 ())) else (c26 ())

def tadd_M (img : List Int) (l : List (Int × Int)) (gw : Int) (gi : Int) (gb : Int) (n_ : Int) (xn_ : ByteArray) (xi_ : Int) : Option (Int × List (Int × Int)) :=
 (ebegin_M xn_).bind fun r14 =>
need ((0 : Int) ≤ r14 ∧ (r14 : Int) ≤ 12) <|
rounds (fun k_ c_ s_ => tadd_R27 img l gw gi gb n_ xn_ xi_ r14 k_ c_) (fun s_ => tadd_D27 l) 12 0 ()

theorem tadd_walk {img : List Int} {l : List (Int × Int)} {gw : Int} {gi : Int} {gb : Int} {n_ : Int} {xn_ : ByteArray} {xi_ : Int} {mb vb : Nat} {r : Int × List (Int × Int)} (B : Nat) (w : World) (hG : 1 < B) (hT : CellsAt (some ⟨1, 0, none⟩) tab8 w) (hm : tadd_M img l gw gi gb n_ xn_ xi_ = some r) : Spec Tryz.prog 56 #[(.agg #[(.pointer (some ⟨vb, 0, none⟩)), (.int .i64 gw), (.int .i64 gi), (.int .i64 gb), (.pointer (some ⟨mb, 0, none⟩))]), (.agg #[(.string xn_), (.int .i64 xi_)])] B w [blk mb (.cells [(.pointer (some ⟨vb, 0, none⟩)), (.int .i64 gw), (.int .i64 gi), (.int .i64 gb), (.int .i64 n_)].toArray 164 (0, 0)), viewA (ptr vb) img l] (fun v H' => v = .int .i64 r.1 ∧ H' = [blk mb (.cells [(.pointer (some ⟨vb, 0, none⟩)), (.int .i64 gw), (.int .i64 gi), (.int .i64 gb), (.int .i64 n_)].toArray 164 (0, 0)), viewA (ptr vb) img r.2]) := by
 refine spec_W Tryz.func56 rfl fun l0 hs => ?_
 unfold tadd_M at hm
 have hs1 := St.addTab hs hG hT
 refine W.sr fun K2 hK2 => ?_
 refine zN [(.pointer (some ⟨vb, 0, none⟩)), (.int .i64 gw), (.int .i64 gi), (.int .i64 gb), (.pointer (some ⟨mb, 0, none⟩))] 97 hs1 fun b5 w3 hs4 => ?_
 refine zN [(.string xn_), (.int .i64 xi_)] 33 hs4 fun b8 w6 hs7 => ?_
 refine zN [(.int .i64 0)] 34 hs7 fun b11 w9 hs10 => ?_
 refine zD (hK2 _ _ ?_)
 refine W.seq fun K12 hK12 => ?_
 refine W.sr fun K13 hK13 => ?_
 refine zR 1 ?_
 refine zL ⟨b8, 0, none⟩ (.string xn_) (hs10.cellAt 1 rfl rfl) ?_
 obtain ⟨r14, h15, hm⟩ := bind_some hm
 refine zC00 hs10 (ebegin_walk (tx_ := xn_) (hm := h15) B _) fun w16 hs18 => ?_
 refine ops_call0 hs18 (by kernel_rfl) (around_spec (f_ := r14) B _) ?_
 rintro _ _ w20 ⟨b19, rfl, rfl⟩ hs21
 have hs22 := St.ap1 hs21
 refine zD (hK13 _ _ ?_)
 refine W.block ?_
 obtain ⟨h23, hm⟩ := need_some hm
 refine W.norm (n := 73) (l := [(2, (.pointer (some ⟨b5, 0, none⟩))), (3, (.pointer (some ⟨b8, 0, none⟩))), (4, (.pointer (some ⟨b11, 0, none⟩))), (16, (.func (.func 83) #[] #[(.pointer (some ⟨b19, 0, none⟩))]))]) (by kernel_rfl) (fun us24 => ?_)
 have hs34 := St.f4 hs22
 have hs35 := St.f4 hs34
 have hs36 := St.f5 hs35
 have hs37 := St.f6 hs36
 have hs38 := St.f6 hs37
 have hs39 := St.f6 hs38
 have hs40 := St.f6 hs39
 have hF41 : rounds (fun k_ c_ s_ => tadd_R27 img l gw gi gb n_ xn_ xi_ r14 k_ c_) (fun s_ => tadd_D27 l) (12 - 0) 0 () = some r := by rw [Nat.sub_zero]; exact hm
 clear hm
 refine W.roundsA (G := Unit) (GZ := Int × (List (Int × Int))) (gf := 83) (lb := #[(.pointer (some ⟨b19, 0, none⟩))]) 12 (fun k_ _ => rounds (fun k_ c_ s_ => tadd_R27 img l gw gi gb n_ xn_ xi_ r14 k_ c_) (fun s_ => tadd_D27 l) (12 - k_) k_ () = some r) (fun _ => [blk b11 (.cells [(.int .i64 0)].toArray 34 (0, 0)), blk b8 (.cells [(.string xn_), (.int .i64 xi_)].toArray 33 (0, 0)), viewA (ptr vb) img l, blk mb (.cells [(.pointer (some ⟨vb, 0, none⟩)), (.int .i64 gw), (.int .i64 gi), (.int .i64 gb), (.int .i64 n_)].toArray 164 (0, 0)), blk b5 (.cells [(.pointer (some ⟨vb, 0, none⟩)), (.int .i64 gw), (.int .i64 gi), (.int .i64 gb), (.pointer (some ⟨mb, 0, none⟩))].toArray 97 (0, 0)), lowA (some ⟨1, 0, none⟩) tab8]) .ret (fun (p28, l29) => tadd_X27 p28 l29 = some r) (fun (p28, l29) => [blk b11 (.cells [(.int .i64 p28)].toArray 34 (0, 0)), blk b8 (.cells [(.string xn_), (.int .i64 xi_)].toArray 33 (0, 0)), viewA (ptr vb) img l29, blk mb (.cells [(.pointer (some ⟨vb, 0, none⟩)), (.int .i64 gw), (.int .i64 gi), (.int .i64 gb), (.int .i64 n_)].toArray 164 (0, 0)), blk b5 (.cells [(.pointer (some ⟨vb, 0, none⟩)), (.int .i64 gw), (.int .i64 gi), (.int .i64 gb), (.pointer (some ⟨mb, 0, none⟩))].toArray 97 (0, 0)), lowA (some ⟨1, 0, none⟩) tab8]) [blk b19 (.cells [(.int .i64 r14)].toArray 3 (0, 0))] (fun k_ => #[(.int .i64 (((r14 : Int) + (k_ : Int)) % 12))]) (fun k_ l_ => slotsD 73 ((17, (.int .i64 (((r14 : Int) + (k_ : Int)) % 12))) :: [(2, (.pointer (some ⟨b5, 0, none⟩))), (3, (.pointer (some ⟨b8, 0, none⟩))), (4, (.pointer (some ⟨b11, 0, none⟩))), (16, (.func (.func 83) #[] #[(.pointer (some ⟨b19, 0, none⟩))]))]) us24 (some l_) []) () hF41 hs40 rfl (by kernel_rfl) (fun _ _ => by kernel_rfl) (fun _ => rfl) (fun a_ k_ l_ h1_ h2_ => ⟨rel_round1 (n := 73) (by decide) h1_ h2_, rfl⟩) (fun l_ => #[.func (.yield l_) #[] #[], (.pointer (some ⟨b19, 0, none⟩))]) (fun _ => rfl) (fun l_ w_ Y_ Z_ hy_ => around1_spec (f_ := r14) (yl := l_) (Y := Y_) (Z := Z_) (hf := h23) (hy := fun k_ h_ w_ => hy_ k_ h_ w_) _ w_) ?_ ?_ ?_
 rotate_left
 ·
  rintro D33 w42 _ hF44 hs43
  replace hF44 : rounds (fun k_ c_ s_ => tadd_R27 img l gw gi gb n_ xn_ xi_ r14 k_ c_) (fun s_ => tadd_D27 l) (12 - 12) 12 () = some r := hF44
  rw [rounds_end] at hF44
  have hm : tadd_D27 l = some r := hF44
  clear hF44
  unfold tadd_D27 at hm
  have hs45 : St B w l0 w42 [blk D33 (.deferred (some [])), blk b19 (.cells [(.int .i64 r14)].toArray 3 (0, 0)), blk b11 (.cells [(.int .i64 0)].toArray 34 (0, 0)), blk b8 (.cells [(.string xn_), (.int .i64 xi_)].toArray 33 (0, 0)), viewA (ptr vb) img l, blk mb (.cells [(.pointer (some ⟨vb, 0, none⟩)), (.int .i64 gw), (.int .i64 gi), (.int .i64 gb), (.int .i64 n_)].toArray 164 (0, 0)), blk b5 (.cells [(.pointer (some ⟨vb, 0, none⟩)), (.int .i64 gw), (.int .i64 gi), (.int .i64 gb), (.pointer (some ⟨mb, 0, none⟩))].toArray 97 (0, 0)), lowA (some ⟨1, 0, none⟩) tab8] := hs43
  refine normal_block ?_
  refine hK12 _ _ ?_
  refine W.sr fun K46 hK46 => ?_
  have hs49 := St.f2 hs45
  refine ops_store (off := 0) (cs := [(.int .i64 0)]) (vs := [(.int .i64 16)]) hs49 (by kernel_rfl) (by simp) rfl (fun w47 hs48 => ?_)
  have hs50 : St B w l0 w47 [blk b11 (.cells [(.int .i64 16)].toArray 34 (0, 0)), blk D33 (.deferred (some [])), blk b19 (.cells [(.int .i64 r14)].toArray 3 (0, 0)), blk b8 (.cells [(.string xn_), (.int .i64 xi_)].toArray 33 (0, 0)), viewA (ptr vb) img l, blk mb (.cells [(.pointer (some ⟨vb, 0, none⟩)), (.int .i64 gw), (.int .i64 gi), (.int .i64 gb), (.int .i64 n_)].toArray 164 (0, 0)), blk b5 (.cells [(.pointer (some ⟨vb, 0, none⟩)), (.int .i64 gw), (.int .i64 gi), (.int .i64 gb), (.pointer (some ⟨mb, 0, none⟩))].toArray 97 (0, 0)), lowA (some ⟨1, 0, none⟩) tab8] := hs48
  refine zD (hK46 _ _ ?_)
  refine W.ret ?_
  obtain rfl := some_inj hm
  have hs51 := St.f7 hs50
  have hs52 := St.f7 hs51
  have hs53 := St.f7 hs52
  have hs54 := St.f7 hs53
  have hs55 := St.f7 hs54
  have hs56 := St.f7 hs55
  have hs57 := St.f6 hs56
  have hs58 := St.f7 hs57
  refine leave_mark (D := D33) (v := (.int .i64 16)) hs58 (by kernel_rfl) (fun w59 hs60 => (resD_one rfl (.cell (ad := ⟨b11, 0, none⟩) (by kernel_rfl) (by kernel_rfl) (hs60.cellAt 0 rfl rfl)))) (fun w59 hs60 => ?_)
  have hs61 := St.f3 hs60
  have hs62 := St.f4 hs61
  have hs63 := St.tk2 hs62
  exact ⟨_, ⟨rfl, rfl⟩, hs63⟩
 ·
  rintro D66 w64 ⟨p28, l29⟩ hm hs65
  replace hm : tadd_X27 p28 l29 = some r := hm
  unfold tadd_X27 at hm
  have hs67 : St B w l0 w64 [blk D66 (.deferred (some [])), blk b19 (.cells [(.int .i64 r14)].toArray 3 (0, 0)), blk b11 (.cells [(.int .i64 p28)].toArray 34 (0, 0)), blk b8 (.cells [(.string xn_), (.int .i64 xi_)].toArray 33 (0, 0)), viewA (ptr vb) img l29, blk mb (.cells [(.pointer (some ⟨vb, 0, none⟩)), (.int .i64 gw), (.int .i64 gi), (.int .i64 gb), (.int .i64 n_)].toArray 164 (0, 0)), blk b5 (.cells [(.pointer (some ⟨vb, 0, none⟩)), (.int .i64 gw), (.int .i64 gi), (.int .i64 gb), (.pointer (some ⟨mb, 0, none⟩))].toArray 97 (0, 0)), lowA (some ⟨1, 0, none⟩) tab8] := hs65
  refine W.ret (ret_block (ret_seq ?_))
  obtain rfl := some_inj hm
  refine leave_mark (D := D66) (v := (.int .i64 p28)) hs67 (by kernel_rfl) (fun w68 hs69 => (resD_one rfl (.cell (ad := ⟨b11, 0, none⟩) (by kernel_rfl) (by kernel_rfl) (hs69.cellAt 1 rfl rfl)))) (fun w68 hs69 => ?_)
  have hs70 := St.f3 hs69
  have hs71 := St.f4 hs70
  have hs72 := St.tk2 hs71
  exact ⟨_, ⟨rfl, rfl⟩, hs72⟩
 ·
  rintro k25 hk73 rc31 l30 w74 _ hF78 lf75 hs76 K77 hK77
  replace hF78 : rounds (fun k_ c_ s_ => tadd_R27 img l gw gi gb n_ xn_ xi_ r14 k_ c_) (fun s_ => tadd_D27 l) (12 - k25) k25 () = some r := hF78
  rw [rounds_at hk73] at hF78
  obtain ⟨c26, hc26⟩ : ∃ c_, c_ = rounds (fun k_ c_ s_ => tadd_R27 img l gw gi gb n_ xn_ xi_ r14 k_ c_) (fun s_ => tadd_D27 l) (12 - (k25 + 1)) (k25 + 1) := ⟨_, rfl⟩
  rw [← hc26] at hF78
  have hm : tadd_R27 img l gw gi gb n_ xn_ xi_ r14 k25 c26 = some r := hF78
  clear hF78
  unfold tadd_R27 at hm
  refine W.region ?_
  refine zR 1 ?_
  obtain ⟨r79, h80, hm⟩ := bind_some hm
  replace h80 := some_inj h80
  refine ops_set 5 (v := .int .i64 r79) (Eq.trans (by kernel_rfl) (congrArg (Value.int .i64) h80)) ?_
  refine zD ?_
  refine hK77 _ _ hs76 (fun w81 hs82 => ?_)
  refine W.block ?_
  refine W.seq fun K83 hK83 => ?_
  refine W.sr fun K84 hK84 => ?_
  refine zR 1 ?_
  refine zL ⟨b5, 4, none⟩ (.pointer (some ⟨mb, 0, none⟩)) (hs82.cellAt 5 rfl rfl) ?_
  refine zR 1 ?_
  obtain ⟨r85, h86, hm⟩ := bind_some hm
  refine zC00 hs82 (bat_walk (k_ := r79) (img := img) (l := l) (gw := gw) (gi := gi) (gb := gb) (n_ := n_) (hmb := (hs82.heapAt 4 rfl)) (hv := (hs82.entAt 3 rfl viewA_at)) (hm := h86) B _) fun w87 hs89 => ?_
  refine zE 5 (hK84 _ _ ?_)
  refine W.sr fun K90 hK90 => ?_
  refine zR 3 ?_
  rcases Bool.eq_false_or_eq_true (!decide (r85.1 = 0)) with h91 | h91
  rotate_left
  ·
   have h91p : r85.1 = 0 := of_decide_eq_true (bnot_false h91)
   replace hm := ite_yes hm h91p
   refine zS 27 h91 ?_
   refine zS 26 h91 ?_
   refine zE 3 (hK90 _ _ ?_)
   refine W.cond (!decide (r85.2 = 0)) (by kernel_rfl) (fun h92 => ?_) (fun h92 => ?_)
   rotate_left
   ·
    have h92p : r85.2 = 0 := of_decide_eq_true (bnot_false h92)
    replace hm := ite_yes hm h92p
    refine W.skip ?_
    refine hK83 _ _ ?_
    refine W.sr fun K93 hK93 => ?_
    refine zR 1 ?_
    refine zL ⟨b5, 4, none⟩ (.pointer (some ⟨mb, 0, none⟩)) (hs89.cellAt 5 rfl rfl) ?_
    refine zR 1 ?_
    obtain ⟨r94, h95, hm⟩ := bind_some hm
    have hs96 := St.f3 hs89
    have hs97 := St.f4 hs96
    refine zC22 hs97 (bTake_walk (mb := mb) (vb := vb) (k_ := r79) (img := img) (l := l) (gw := gw) (gi := gi) (gb := gb) (n_ := n_) (hG := hG) (hT := (hs89.entAt 6 rfl low_at)) (hm := h95) B _) fun w98 hs100 => ?_
    refine zE 5 (hK93 _ _ ?_)
    refine W.seq fun K101 hK101 => ?_
    refine W.sr fun K102 hK102 => ?_
    refine zE 2 (hK102 _ _ ?_)
    refine W.cond (!decide (r94.2.1 = 0)) (by kernel_rfl) (fun h103 => ?_) (fun h103 => ?_)
    rotate_left
    ·
     have h103p : r94.2.1 = 0 := of_decide_eq_true (bnot_false h103)
     replace hm := ite_yes hm h103p
     refine W.skip ?_
     refine hK101 _ _ ?_
     refine W.seq fun K104 hK104 => ?_
     refine W.seq_join (fun s_ w_ => ∃ (q107 : List Int) (p108 : Int) (m105 : Option Addr) (m106 : Nat), (∃ us, s_ = slotsD 73 [(2, (.pointer (some ⟨b5, 0, none⟩))), (4, (.pointer (some ⟨b11, 0, none⟩))), (8, (.int .i64 r94.1)), (52, (.slice m105 q107.length m106)), (53, (.int .i64 p108)), (54, (.int .i64 0))] us (some l30) []) ∧ St B w74 lf75 w_ [viewA (ptr vb) img r94.2.2, blk mb (.cells [(.pointer (some ⟨vb, 0, none⟩)), (.int .i64 gw), (.int .i64 gi), (.int .i64 gb), (.int .i64 n_)].toArray 164 (0, 0)), blk b5 (.cells [(.pointer (some ⟨vb, 0, none⟩)), (.int .i64 gw), (.int .i64 gi), (.int .i64 gb), (.pointer (some ⟨mb, 0, none⟩))].toArray 97 (0, 0)), blk b11 (.cells [(.int .i64 0)].toArray 34 (0, 0)), kU64.row m105 m106 q107, blk l30 (.loop { rc31 with state := .busy }), blk b8 (.cells [(.string xn_), (.int .i64 xi_)].toArray 33 (0, 0)), lowA (some ⟨1, 0, none⟩) tab8] ∧ tadd_J4 img gw gi gb r94 q107 p108 = some r) ?_ ?_
     ·
      rintro _ w109 ⟨q107, p108, m105, m106, ⟨us, rfl⟩, hs110, hm⟩
      unfold tadd_J4 at hm
      refine W.block ?_
      refine W.loop_iter (G := (List (Int × Int)) × Int) (σ := (List (Int × Int)) × Int) (fun | (l111, p112) => (l111, p112)) (fun | (l111, p112), s_, w_ => (∃ us, s_ = slotsD 73 [(2, (.pointer (some ⟨b5, 0, none⟩))), (4, (.pointer (some ⟨b11, 0, none⟩))), (8, (.int .i64 r94.1)), (52, (.slice m105 q107.length m106)), (53, (.int .i64 p108)), (54, (.int .i64 p112))] us (some l30) []) ∧ St B w74 lf75 w_ [viewA (ptr vb) img l111, blk mb (.cells [(.pointer (some ⟨vb, 0, none⟩)), (.int .i64 gw), (.int .i64 gi), (.int .i64 gb), (.int .i64 n_)].toArray 164 (0, 0)), blk b5 (.cells [(.pointer (some ⟨vb, 0, none⟩)), (.int .i64 gw), (.int .i64 gi), (.int .i64 gb), (.pointer (some ⟨mb, 0, none⟩))].toArray 97 (0, 0)), blk b11 (.cells [(.int .i64 0)].toArray 34 (0, 0)), kU64.row m105 m106 q107, blk l30 (.loop { rc31 with state := .busy }), blk b8 (.cells [(.string xn_), (.int .i64 xi_)].toArray 33 (0, 0)), lowA (some ⟨1, 0, none⟩) tab8]) (r94.2.2, 0) ⟨slotsD_intro _ (by kernel_rfl), hs110⟩ hm ?_
      rintro k113 ih114 ⟨l111, p112⟩ _ w115 ⟨⟨us, rfl⟩, hs116⟩ hm
      replace hm : tadd_B0 img gw gi gb r94 q107 p108 k113 l111 p112 = some r := hm
      unfold tadd_B0 at hm
      refine W.sr fun K117 hK117 => ?_
      refine zE 1 (hK117 _ _ ?_)
      refine W.seq fun K118 hK118 => ?_
      refine W.cond (decide (p112 < p108)) (by kernel_rfl) (fun h119 => ?_) (fun h119 => ?_)
      ·
       obtain ⟨h119p, hm⟩ := iY hm h119
       refine W.skip ?_
       refine hK118 _ _ ?_
       refine W.seq fun K120 hK120 => ?_
       refine W.block ?_
       refine W.sr fun K121 hK121 => ?_
       refine zR 1 ?_
       obtain ⟨h123, hm⟩ := need_some hm
       have hk122 := lt_toNat h123
       refine ops_R (runs_index (a := m105) (n := q107.length) (z := p112) (size := 1) p112.toNat (nat_of h123.1) hk122 (kU64.addr (St.kcells kU64 hs116 4 rfl) hk122) (by kernel_rfl)) ?_
       refine zL ((adr m105 (p112.toNat * 1)).add 0) (.int .u64 (q107.getD p112.toNat 0)) (kU64.at (St.kcells kU64 hs116 4 rfl) hk122 0 0 rfl) ?_
       refine zE 2 (hK121 _ _ ?_)
       refine W.seq fun K124 hK124 => ?_
       have hs125 := hs116.drew
       have hs126 := St.f7 hs125
       have hs127 := St.f7 hs126
       have hs128 := St.f7 hs127
       have hs129 := St.f7 hs128
       have hs130 := St.f7 hs129
       have hs131 := St.f7 hs130
       have hs132 := St.f7 hs131
       have hs133 := St.tk7 hs132
       refine W.regionD [(0, 0), (1, 1), (0, 0), (4, 4), (0, 0), (24, 24), (0, 0), (96, 96), (0, 0), (418, 386), (1023, 512)] (fun w_ => St B w74 lf75 w_ [blk mb (.cells [(.pointer (some ⟨vb, 0, none⟩)), (.int .i64 gw), (.int .i64 gi), (.int .i64 gb), (.int .i64 n_)].toArray 164 (0, 0)), blk b5 (.cells [(.pointer (some ⟨vb, 0, none⟩)), (.int .i64 gw), (.int .i64 gi), (.int .i64 gb), (.pointer (some ⟨mb, 0, none⟩))].toArray 97 (0, 0)), blk b11 (.cells [(.int .i64 0)].toArray 34 (0, 0)), kU64.row m105 m106 q107, blk l30 (.loop { rc31 with state := .busy }), blk b8 (.cells [(.string xn_), (.int .i64 xi_)].toArray 33 (0, 0)), lowA (some ⟨1, 0, none⟩) tab8]) (by kernel_rfl) hs133 ?_
       refine any_val (v := (.pointer (some ⟨b5, 0, none⟩))) (v' := (.pointer (some ⟨b5, 0, none⟩))) 0 (by kernel_rfl) (fun _ => by kernel_rfl) rfl hs133 ?_
       refine any_R 1 (by kernel_rfl) (fun _ hS_ => runs_load (ad := ⟨b5, 0, none⟩) (v := (.pointer (some ⟨vb, 0, none⟩))) (by kernel_rfl) (hS_.cellAt 1 rfl rfl)) hs133 ?_
       refine any_val (v := (.pointer (some ⟨b5, 1, none⟩))) (v' := (.pointer (some ⟨b5, 1, none⟩))) 2 (by kernel_rfl) (fun _ => by kernel_rfl) rfl hs133 ?_
       refine any_R 3 (by kernel_rfl) (fun _ hS_ => runs_loadAgg (ad := ⟨b5, 1, none⟩) (cs := [(.int .i64 gw), (.int .i64 gi), (.int .i64 gb)]) (by kernel_rfl) (cells_sub (hS_.heapAt 1 rfl) rfl)) hs133 ?_
       refine any_val (v := (.int .i64 r94.1)) (v' := (.int .i64 r94.1)) 4 (by kernel_rfl) (fun _ => by kernel_rfl) rfl hs133 ?_
       refine any_val (v := (.int .i64 p112)) (v' := (.int .i64 p112)) 6 (by kernel_rfl) (fun _ => by kernel_rfl) rfl hs133 ?_
       refine any_val (v := (.int .u64 (q107.getD p112.toNat 0))) (v' := (.int .u64 (q107.getD p112.toNat 0))) 8 (by kernel_rfl) (fun _ => by kernel_rfl) rfl hs133 ?_
       refine any_step 5 (by kernel_rfl) (by kernel_rfl) ?_
       refine zC00 hs125 (blockat_spec (gw := gw) (gi := gi) (gb := gb) (n_ := r94.1) B _) fun w134 hs136 => ?_
       have hs137 := St.f7 hs136
       have hs138 := St.f7 hs137
       have hs139 := St.f7 hs138
       have hs140 := St.f7 hs139
       have hs141 := St.f7 hs140
       have hs142 := St.f7 hs141
       have hs143 := St.f7 hs142
       have hs144 := St.tk7 hs143
       refine ops_done (by kernel_rfl) ⟨hs144, ?_⟩
       obtain ⟨h145, hm⟩ := need_some hm
       refine any_val (v := .int .i64 (IntKind.i64.wrap ((placeOf 9 gw gi gb r94.1) + p112))) (v' := .int .i64 ((placeOf 9 gw gi gb r94.1) + p112)) 7 (by kernel_rfl) (fun _ => by kernel_rfl) (congrArg (Value.int .i64) (wrap_i64 h145.1 h145.2)) hs144 ?_
       refine any_step 9 (by kernel_rfl) (by kernel_rfl) ?_
       refine zC11 hs136 (sset_spec (b := vb) (img := img) (l := l111) (at_ := ((placeOf 9 gw gi gb r94.1) + p112)) (x_ := (q107.getD p112.toNat 0)) B _) fun w146 hs148 => ?_
       have hs149 := St.f7 hs148
       have hs150 := St.f7 hs149
       have hs151 := St.f7 hs150
       have hs152 := St.f7 hs151
       have hs153 := St.f7 hs152
       have hs154 := St.f7 hs153
       have hs155 := St.f7 hs154
       have hs156 := St.tk7 hs155
       refine ops_done (by kernel_rfl) ⟨hs156, ?_⟩
       refine any_val (v := (.int .i64 ((vwrite img l111 ((placeOf 9 gw gi gb r94.1) + p112) (q107.getD p112.toNat 0)).1))) (v' := (.int .i64 ((vwrite img l111 ((placeOf 9 gw gi gb r94.1) + p112) (q107.getD p112.toNat 0)).1))) 10 (by kernel_rfl) (fun _ => by kernel_rfl) rfl hs156 ?_
       refine any_done (by kernel_rfl) ?_
       refine hK124 _ _ ?_
       refine W.sr fun K157 hK157 => ?_
       refine zE 2 (hK157 _ _ ?_)
       refine W.cond (!decide ((vwrite img l111 ((placeOf 9 gw gi gb r94.1) + p112) (q107.getD p112.toNat 0)).1 = 0)) (by kernel_rfl) (fun h158 => ?_) (fun h158 => ?_)
       rotate_left
       ·
        have h158p : (vwrite img l111 ((placeOf 9 gw gi gb r94.1) + p112) (q107.getD p112.toNat 0)).1 = 0 := of_decide_eq_true (bnot_false h158)
        replace hm := ite_yes hm h158p
        refine W.skip ?_
        refine normal_block ?_
        refine hK120 _ _ ?_
        refine W.region ?_
        obtain ⟨h159, hm⟩ := need_some hm
        refine zI _ (wrap_i64 h159.1 h159.2) ?_
        refine zE 1 ?_
        refine loopAt_next ?_
        exact ih114 ((vwrite img l111 ((placeOf 9 gw gi gb r94.1) + p112) (q107.getD p112.toNat 0)).2, (p112 + 1)) _ _ ⟨slotsD_intro _ (by kernel_rfl), hs148⟩ hm
       ·
        have h158p : ¬ ((vwrite img l111 ((placeOf 9 gw gi gb r94.1) + p112) (q107.getD p112.toNat 0)).1 = 0) := of_decide_eq_false (bnot_true h158)
        replace hm := ite_no hm h158p
        refine W.sr fun K160 hK160 => ?_
        refine zR 1 ?_
        have hs163 := St.f3 hs148
        refine ops_store (off := 0) (cs := [(.int .i64 0)]) (vs := [(.int .i64 ((vwrite img l111 ((placeOf 9 gw gi gb r94.1) + p112) (q107.getD p112.toNat 0)).1))]) hs163 (by kernel_rfl) (by simp) rfl (fun w161 hs162 => ?_)
        have hs164 : St B w74 lf75 w161 [blk b11 (.cells [(.int .i64 ((vwrite img l111 ((placeOf 9 gw gi gb r94.1) + p112) (q107.getD p112.toNat 0)).1))].toArray 34 (0, 0)), viewA (ptr vb) img ((vwrite img l111 ((placeOf 9 gw gi gb r94.1) + p112) (q107.getD p112.toNat 0)).2), blk mb (.cells [(.pointer (some ⟨vb, 0, none⟩)), (.int .i64 gw), (.int .i64 gi), (.int .i64 gb), (.int .i64 n_)].toArray 164 (0, 0)), blk b5 (.cells [(.pointer (some ⟨vb, 0, none⟩)), (.int .i64 gw), (.int .i64 gi), (.int .i64 gb), (.pointer (some ⟨mb, 0, none⟩))].toArray 97 (0, 0)), kU64.row m105 m106 q107, blk l30 (.loop { rc31 with state := .busy }), blk b8 (.cells [(.string xn_), (.int .i64 xi_)].toArray 33 (0, 0)), lowA (some ⟨1, 0, none⟩) tab8] := hs162
        refine zD (hK160 _ _ ?_)
        refine W.ret (ret_block (ret_seq (ret_seq (ret_block (ret_seq (ret_block ?_))))))
        have hs165 := St.f7 hs164
        have hs166 := St.f4 hs165
        have hs167 := St.f4 hs166
        have hs168 := St.f4 hs167
        have hs169 := St.f7 hs168
        have hs170 := St.f5 hs169
        have hs171 := St.f7 hs170
        have hs172 := St.tk7 hs171
        exact ⟨rfl, (((vwrite img l111 ((placeOf 9 gw gi gb r94.1) + p112) (q107.getD p112.toNat 0)).1), ((vwrite img l111 ((placeOf 9 gw gi gb r94.1) + p112) (q107.getD p112.toNat 0)).2)), hm, hs172⟩
      ·
       obtain ⟨h119p, hm⟩ := iN hm h119
       refine W.exit (exit_seq (exit_seq (exit_here ?_)))
       refine hK104 _ _ ?_
       refine W.sr fun K173 hK173 => ?_
       have hs176 := St.f3 hs116
       refine ops_store (off := 0) (cs := [(.int .i64 0)]) (vs := [(.int .i64 0)]) hs176 (by kernel_rfl) (by simp) rfl (fun w174 hs175 => ?_)
       have hs177 : St B w74 lf75 w174 [blk b11 (.cells [(.int .i64 0)].toArray 34 (0, 0)), viewA (ptr vb) img l111, blk mb (.cells [(.pointer (some ⟨vb, 0, none⟩)), (.int .i64 gw), (.int .i64 gi), (.int .i64 gb), (.int .i64 n_)].toArray 164 (0, 0)), blk b5 (.cells [(.pointer (some ⟨vb, 0, none⟩)), (.int .i64 gw), (.int .i64 gi), (.int .i64 gb), (.pointer (some ⟨mb, 0, none⟩))].toArray 97 (0, 0)), kU64.row m105 m106 q107, blk l30 (.loop { rc31 with state := .busy }), blk b8 (.cells [(.string xn_), (.int .i64 xi_)].toArray 33 (0, 0)), lowA (some ⟨1, 0, none⟩) tab8] := hs175
       refine zD (hK173 _ _ ?_)
       refine W.ret (ret_block ?_)
       have hs178 := St.f7 hs177
       have hs179 := St.f4 hs178
       have hs180 := St.f4 hs179
       have hs181 := St.f4 hs180
       have hs182 := St.f7 hs181
       have hs183 := St.f5 hs182
       have hs184 := St.f7 hs183
       have hs185 := St.tk7 hs184
       exact ⟨rfl, (0, l111), hm, hs185⟩
     ·
      have hs186 := hs100.drew
      refine W.regionD [(0, 0), (1, 1), (2, 2), (0, 0), (8, 8), (16, 16), (32, 32), (68, 68), (0, 0), (256, 256), (512, 512), (1152, 1152), (2048, 2048), (0, 0)] (fun w_ => St B w74 lf75 w_ [blk mb (.cells [(.pointer (some ⟨vb, 0, none⟩)), (.int .i64 gw), (.int .i64 gi), (.int .i64 gb), (.int .i64 n_)].toArray 164 (0, 0)), viewA (ptr vb) img r94.2.2, blk l30 (.loop { rc31 with state := .busy }), blk b11 (.cells [(.int .i64 0)].toArray 34 (0, 0)), blk b8 (.cells [(.string xn_), (.int .i64 xi_)].toArray 33 (0, 0)), blk b5 (.cells [(.pointer (some ⟨vb, 0, none⟩)), (.int .i64 gw), (.int .i64 gi), (.int .i64 gb), (.pointer (some ⟨mb, 0, none⟩))].toArray 97 (0, 0)), lowA (some ⟨1, 0, none⟩) tab8]) (by kernel_rfl) hs186 ?_
      refine any_val (v := (.pointer (some ⟨b8, 1, none⟩))) (v' := (.pointer (some ⟨b8, 1, none⟩))) 0 (by kernel_rfl) (fun _ => by kernel_rfl) rfl hs186 ?_
      refine any_R 1 (by kernel_rfl) (fun _ hS_ => runs_load (ad := ⟨b8, 1, none⟩) (v := (.int .i64 xi_)) (by kernel_rfl) (hS_.cellAt 4 rfl rfl)) hs186 ?_
      obtain ⟨h187, hm⟩ := need_some hm
      refine any_val (v := .int .u64 (IntKind.u64.wrap xi_)) (v' := .int .u64 xi_) 2 (by kernel_rfl) (fun _ => by kernel_rfl) (congrArg (Value.int .u64) (wrap_u64 h187.1 (Int.lt_of_le_of_lt h187.2 (by decide)))) hs186 ?_
      refine any_val (v := (.pointer (some ⟨b8, 0, none⟩))) (v' := (.pointer (some ⟨b8, 0, none⟩))) 3 (by kernel_rfl) (fun _ => by kernel_rfl) rfl hs186 ?_
      refine any_R 4 (by kernel_rfl) (fun _ hS_ => runs_load (ad := ⟨b8, 0, none⟩) (v := (.string xn_)) (by kernel_rfl) (hS_.cellAt 4 rfl rfl)) hs186 ?_
      refine any_val (v := (.int .i64 (xn_.size : Int))) (v' := (.int .i64 (xn_.size : Int))) 5 (by kernel_rfl) (fun _ => by kernel_rfl) rfl hs186 ?_
      obtain ⟨h188, hm⟩ := need_some hm
      refine any_val (v := .int .u64 (IntKind.u64.wrap (xn_.size : Int))) (v' := .int .u64 (xn_.size : Int)) 6 (by kernel_rfl) (fun _ => by kernel_rfl) (congrArg (Value.int .u64) (wrap_u64 h188.1 (Int.lt_of_le_of_lt h188.2 (by decide)))) hs186 ?_
      refine any_val (v := (.pointer (some ⟨b8, 0, none⟩))) (v' := (.pointer (some ⟨b8, 0, none⟩))) 8 (by kernel_rfl) (fun _ => by kernel_rfl) rfl hs186 ?_
      refine any_R 9 (by kernel_rfl) (fun _ hS_ => runs_load (ad := ⟨b8, 0, none⟩) (v := (.string xn_)) (by kernel_rfl) (hS_.cellAt 4 rfl rfl)) hs186 ?_
      refine any_val (v := (.int .i64 0)) (v' := (.int .i64 0)) 13 (by kernel_rfl) (fun _ => by kernel_rfl) rfl hs186 ?_
      refine any_step2 7 10 (by kernel_rfl) (by kernel_rfl) (by kernel_rfl) ?_ ?_
      ·
       refine ops_new (fun b => .slice (some ⟨b, 0, none⟩) 2 2) (.cells [(.int .u64 xi_), (.int .u64 (xn_.size : Int))].toArray 25 (0, 0)) hs186 (by kernel_rfl) (fun b191 w189 hs190 => ?_)
       have hs192 := St.f7 hs190
       have hs193 := St.f7 hs192
       have hs194 := St.f7 hs193
       have hs195 := St.f7 hs194
       have hs196 := St.f7 hs195
       have hs197 := St.f7 hs196
       have hs198 := St.f7 hs197
       have hs199 := St.tk7 hs198
       refine ops_done (by kernel_rfl) ⟨hs199, ?_⟩
       refine any_step 10 (by kernel_rfl) (by kernel_rfl) ?_
       obtain ⟨r202, h203, hm⟩ := bind_some hm
       refine ops_call0 hs190 (by kernel_rfl) (opack_walk (hm := h203) B _) ?_
       rintro _ _ w204 ⟨a200, c201, rfl, rfl⟩ hs205
       have hs206 := St.ap1 hs205
       have hs207 := St.f8 hs206
       have hs208 := St.f8 hs207
       have hs209 := St.f8 hs208
       have hs210 := St.f8 hs209
       have hs211 := St.f8 hs210
       have hs212 := St.f8 hs211
       have hs213 := St.f8 hs212
       have hs214 := St.tk7 hs213
       refine ops_done (by kernel_rfl) ⟨hs214, ?_⟩
       refine any_step 11 (by kernel_rfl) (by kernel_rfl) ?_
       have hs215 := St.f1 hs206
       have hs216 : St B w74 lf75 w204 [kU64.row (some ⟨b191, 0, none⟩) 2 ([xi_, (xn_.size : Int)]), kU64.row a200 c201 r202, blk mb (.cells [(.pointer (some ⟨vb, 0, none⟩)), (.int .i64 gw), (.int .i64 gi), (.int .i64 gb), (.int .i64 n_)].toArray 164 (0, 0)), viewA (ptr vb) img r94.2.2, blk l30 (.loop { rc31 with state := .busy }), blk b11 (.cells [(.int .i64 0)].toArray 34 (0, 0)), blk b8 (.cells [(.string xn_), (.int .i64 xi_)].toArray 33 (0, 0)), blk b5 (.cells [(.pointer (some ⟨vb, 0, none⟩)), (.int .i64 gw), (.int .i64 gi), (.int .i64 gb), (.pointer (some ⟨mb, 0, none⟩))].toArray 97 (0, 0)), lowA (some ⟨1, 0, none⟩) tab8] := St.kblk kU64 [xi_, (xn_.size : Int)] hs215 rfl rfl (by simp only [List.length_cons, List.length_nil]; decide)
       obtain ⟨h221, hm⟩ := need_some hm
       refine ops_appendK kU64 (bytes := 8) (a' := a200) (c' := c201) (l := [xi_, (xn_.size : Int)]) (m := r202) hs216 (by kernel_rfl) (St.capnil kU64 hs216 1 rfl) (St.kcells kU64 hs216 1 rfl) (by unfold maxLen; (try simp only [List.length_cons, List.length_nil]); omega) (by (try simp only [List.length_cons, List.length_nil]); omega) (fun a217 c218 w219 hs220 => ?_)
       have hs222 := St.f8 hs220
       have hs223 := St.f8 hs222
       have hs224 := St.f8 hs223
       have hs225 := St.f8 hs224
       have hs226 := St.f8 hs225
       have hs227 := St.f8 hs226
       have hs228 := St.f8 hs227
       have hs229 := St.tk7 hs228
       refine ops_done (by kernel_rfl) ⟨hs229, ?_⟩
       refine any_val (v := (.int .i64 ((([xi_, (xn_.size : Int)] ++ r202).length) : Int))) (v' := (.int .i64 ((([xi_, (xn_.size : Int)] ++ r202).length) : Int))) 12 (by kernel_rfl) (fun _ => by kernel_rfl) rfl hs229 ?_
       refine any_done (by kernel_rfl) ?_
       have hs230 := St.f8 hs220
       have hs231 := St.f7 hs230
       have hs232 := St.f6 hs231
       have hs233 := St.f3 hs232
       have hs234 := St.f7 hs233
       have hs235 := St.f8 hs234
       have hs236 := St.f7 hs235
       have hs237 := St.f8 hs236
       have hs238 := St.tk8 hs237
       exact ⟨([xi_, (xn_.size : Int)] ++ r202), ((([xi_, (xn_.size : Int)] ++ r202).length) : Int), a217, c218, slotsD_intro _ (by kernel_rfl), hs238, hm⟩
      ·
       obtain ⟨r241, h242, hm⟩ := bind_some hm
       refine ops_call0 hs186 (by kernel_rfl) (opack_walk (hm := h242) B _) ?_
       rintro _ _ w243 ⟨a239, c240, rfl, rfl⟩ hs244
       have hs245 := St.ap1 hs244
       have hs246 := St.f7 hs245
       have hs247 := St.f7 hs246
       have hs248 := St.f7 hs247
       have hs249 := St.f7 hs248
       have hs250 := St.f7 hs249
       have hs251 := St.f7 hs250
       have hs252 := St.f7 hs251
       have hs253 := St.tk7 hs252
       refine ops_done (by kernel_rfl) ⟨hs253, ?_⟩
       refine any_step 7 (by kernel_rfl) (by kernel_rfl) ?_
       refine ops_new (fun b => .slice (some ⟨b, 0, none⟩) 2 2) (.cells [(.int .u64 xi_), (.int .u64 (xn_.size : Int))].toArray 25 (0, 0)) hs245 (by kernel_rfl) (fun b256 w254 hs255 => ?_)
       have hs257 := St.f8 hs255
       have hs258 := St.f8 hs257
       have hs259 := St.f8 hs258
       have hs260 := St.f8 hs259
       have hs261 := St.f8 hs260
       have hs262 := St.f8 hs261
       have hs263 := St.f8 hs262
       have hs264 := St.tk7 hs263
       refine ops_done (by kernel_rfl) ⟨hs264, ?_⟩
       refine any_step 11 (by kernel_rfl) (by kernel_rfl) ?_
       have hs265 : St B w74 lf75 w254 [kU64.row (some ⟨b256, 0, none⟩) 2 ([xi_, (xn_.size : Int)]), kU64.row a239 c240 r241, blk mb (.cells [(.pointer (some ⟨vb, 0, none⟩)), (.int .i64 gw), (.int .i64 gi), (.int .i64 gb), (.int .i64 n_)].toArray 164 (0, 0)), viewA (ptr vb) img r94.2.2, blk l30 (.loop { rc31 with state := .busy }), blk b11 (.cells [(.int .i64 0)].toArray 34 (0, 0)), blk b8 (.cells [(.string xn_), (.int .i64 xi_)].toArray 33 (0, 0)), blk b5 (.cells [(.pointer (some ⟨vb, 0, none⟩)), (.int .i64 gw), (.int .i64 gi), (.int .i64 gb), (.pointer (some ⟨mb, 0, none⟩))].toArray 97 (0, 0)), lowA (some ⟨1, 0, none⟩) tab8] := St.kblk kU64 [xi_, (xn_.size : Int)] hs255 rfl rfl (by simp only [List.length_cons, List.length_nil]; decide)
       obtain ⟨h270, hm⟩ := need_some hm
       refine ops_appendK kU64 (bytes := 8) (a' := a239) (c' := c240) (l := [xi_, (xn_.size : Int)]) (m := r241) hs265 (by kernel_rfl) (St.capnil kU64 hs265 1 rfl) (St.kcells kU64 hs265 1 rfl) (by unfold maxLen; (try simp only [List.length_cons, List.length_nil]); omega) (by (try simp only [List.length_cons, List.length_nil]); omega) (fun a266 c267 w268 hs269 => ?_)
       have hs271 := St.f8 hs269
       have hs272 := St.f8 hs271
       have hs273 := St.f8 hs272
       have hs274 := St.f8 hs273
       have hs275 := St.f8 hs274
       have hs276 := St.f8 hs275
       have hs277 := St.f8 hs276
       have hs278 := St.tk7 hs277
       refine ops_done (by kernel_rfl) ⟨hs278, ?_⟩
       refine any_val (v := (.int .i64 ((([xi_, (xn_.size : Int)] ++ r241).length) : Int))) (v' := (.int .i64 ((([xi_, (xn_.size : Int)] ++ r241).length) : Int))) 12 (by kernel_rfl) (fun _ => by kernel_rfl) rfl hs278 ?_
       refine any_done (by kernel_rfl) ?_
       have hs279 := St.f8 hs269
       have hs280 := St.f7 hs279
       have hs281 := St.f6 hs280
       have hs282 := St.f3 hs281
       have hs283 := St.f7 hs282
       have hs284 := St.f8 hs283
       have hs285 := St.f7 hs284
       have hs286 := St.f8 hs285
       have hs287 := St.tk8 hs286
       exact ⟨([xi_, (xn_.size : Int)] ++ r241), ((([xi_, (xn_.size : Int)] ++ r241).length) : Int), a266, c267, slotsD_intro _ (by kernel_rfl), hs287, hm⟩
    ·
     have h103p : ¬ (r94.2.1 = 0) := of_decide_eq_false (bnot_true h103)
     replace hm := ite_no hm h103p
     refine W.sr fun K288 hK288 => ?_
     refine zR 1 ?_
     have hs291 := St.f3 hs100
     refine ops_store (off := 0) (cs := [(.int .i64 0)]) (vs := [(.int .i64 r94.2.1)]) hs291 (by kernel_rfl) (by simp) rfl (fun w289 hs290 => ?_)
     have hs292 : St B w74 lf75 w289 [blk b11 (.cells [(.int .i64 r94.2.1)].toArray 34 (0, 0)), blk mb (.cells [(.pointer (some ⟨vb, 0, none⟩)), (.int .i64 gw), (.int .i64 gi), (.int .i64 gb), (.int .i64 n_)].toArray 164 (0, 0)), viewA (ptr vb) img r94.2.2, blk l30 (.loop { rc31 with state := .busy }), blk b8 (.cells [(.string xn_), (.int .i64 xi_)].toArray 33 (0, 0)), blk b5 (.cells [(.pointer (some ⟨vb, 0, none⟩)), (.int .i64 gw), (.int .i64 gi), (.int .i64 gb), (.pointer (some ⟨mb, 0, none⟩))].toArray 97 (0, 0)), lowA (some ⟨1, 0, none⟩) tab8] := hs290
     refine zD (hK288 _ _ ?_)
     refine W.ret (ret_seq (ret_block ?_))
     have hs293 := St.f6 hs292
     have hs294 := St.f6 hs293
     have hs295 := St.f3 hs294
     have hs296 := St.f4 hs295
     have hs297 := St.f6 hs296
     have hs298 := St.f5 hs297
     have hs299 := St.f6 hs298
     exact ⟨rfl, (r94.2.1, r94.2.2), hm, hs299⟩
   ·
    have h92p : ¬ (r85.2 = 0) := of_decide_eq_false (bnot_true h92)
    replace hm := ite_no hm h92p
    refine W.exit (exit_seq (exit_here ?_))
    rw [hc26] at hm
    exact ⟨(), hm, hs89⟩
  ·
   have h91p : ¬ (r85.1 = 0) := of_decide_eq_false (bnot_true h91)
   replace hm := ite_no hm h91p
   refine zS 27 h91 ?_
   refine zS 26 h91 ?_
   refine zE 3 (hK90 _ _ ?_)
   refine W.cond_true true (by kernel_rfl) rfl ?_
   refine W.exit (exit_seq (exit_here ?_))
   rw [hc26] at hm
   exact ⟨(), hm, hs89⟩

end Go.Proofs.YtmmclabkkigiaaaGreatDoor

set_option linter.unusedVariables false
set_option maxRecDepth 20000
namespace Go.Proofs.YtmmclabkkigiaaaGreatDoor
open Go Go.RowKit
set_option linter.unusedSimpArgs false
set_option linter.unusedVariables false

def emay2_M (gi : Int) (xi_ : Int) : Option (Int) :=
 if xi_ < 1 then (if xi_ < 1 then (some 1) else (some 0)) else (if xi_ ≥ gi then (some 1) else (some 0))

theorem emay2_walk {gw : Int} {gi : Int} {gb : Int} {xn_ : ByteArray} {xi_ : Int} {vb : Nat} {r : Int} (B : Nat) (w : World) (hm : emay2_M gi xi_ = some r) : Spec Tryz.prog 55 #[(.pointer (some ⟨vb, 0, none⟩)), (.agg #[(.int .i64 gw), (.int .i64 gi), (.int .i64 gb)]), (.agg #[(.string xn_), (.int .i64 xi_)])] B w [] (fun v H' => v = .int .i64 r ∧ H' = []) := by
 refine spec_Q Tryz.func55 rfl fun hs => ?_
 unfold emay2_M at hm
 refine W.sr fun K1 hK1 => ?_
 refine zN [(.int .i64 gw), (.int .i64 gi), (.int .i64 gb)] 31 hs fun b4 w2 hs3 => ?_
 refine zN [(.string xn_), (.int .i64 xi_)] 33 hs3 fun b7 w5 hs6 => ?_
 refine zE 1 (hK1 _ _ ?_)
 refine W.seq fun K8 hK8 => ?_
 refine W.block ?_
 refine W.sr fun K9 hK9 => ?_
 refine zE 3 (hK9 _ _ ?_)
 refine W.cond_false false (by kernel_rfl) rfl ?_
 refine W.seq fun K10 hK10 => ?_
 refine W.sr fun K11 hK11 => ?_
 refine zR 1 ?_
 refine zL ⟨b7, 1, none⟩ (.int .i64 xi_) (hs6.cellAt 0 rfl rfl) ?_
 refine zE 2 (hK11 _ _ ?_)
 refine W.cond (decide (xi_ < 1)) (by kernel_rfl) (fun h12 => ?_) (fun h12 => ?_)
 ·
  obtain ⟨h12p, hm⟩ := iY hm h12
  refine W.skip ?_
  refine hK10 _ _ ?_
  refine W.cond (decide (xi_ < 1)) (by kernel_rfl) (fun h13 => ?_) (fun h13 => ?_)
  ·
   obtain ⟨h13p, hm⟩ := iY hm h13
   refine W.sr fun K14 hK14 => ?_
   refine zE 1 (hK14 _ _ ?_)
   refine W.ret (ret_block (ret_seq ?_))
   obtain rfl := some_inj hm
   have hs15 := St.tk0 hs6
   refine ret_of (.int .i64 1) (by kernel_rfl) ⟨_, ⟨rfl, rfl⟩, hs15⟩
  ·
   obtain ⟨h13p, hm⟩ := iN hm h13
   refine W.skip ?_
   refine normal_block ?_
   refine hK8 _ _ ?_
   refine W.sr fun K16 hK16 => ?_
   refine zE 1 (hK16 _ _ ?_)
   refine W.ret ?_
   obtain rfl := some_inj hm
   have hs17 := St.tk0 hs6
   refine ret_of (.int .i64 0) (by kernel_rfl) ⟨_, ⟨rfl, rfl⟩, hs17⟩
 ·
  obtain ⟨h12p, hm⟩ := iN hm h12
  refine W.region ?_
  refine zR 1 ?_
  refine zL ⟨b7, 1, none⟩ (.int .i64 xi_) (hs6.cellAt 0 rfl rfl) ?_
  refine zR 1 ?_
  refine zL ⟨b4, 1, none⟩ (.int .i64 gi) (hs6.cellAt 1 rfl rfl) ?_
  refine zE 2 (hK10 _ _ ?_)
  refine W.cond (decide (xi_ ≥ gi)) (by kernel_rfl) (fun h18 => ?_) (fun h18 => ?_)
  ·
   obtain ⟨h18p, hm⟩ := iY hm h18
   refine W.sr fun K19 hK19 => ?_
   refine zE 1 (hK19 _ _ ?_)
   refine W.ret (ret_block (ret_seq ?_))
   obtain rfl := some_inj hm
   have hs20 := St.tk0 hs6
   refine ret_of (.int .i64 1) (by kernel_rfl) ⟨_, ⟨rfl, rfl⟩, hs20⟩
  ·
   obtain ⟨h18p, hm⟩ := iN hm h18
   refine W.skip ?_
   refine normal_block ?_
   refine hK8 _ _ ?_
   refine W.sr fun K21 hK21 => ?_
   refine zE 1 (hK21 _ _ ?_)
   refine W.ret ?_
   obtain rfl := some_inj hm
   have hs22 := St.tk0 hs6
   refine ret_of (.int .i64 0) (by kernel_rfl) ⟨_, ⟨rfl, rfl⟩, hs22⟩

end Go.Proofs.YtmmclabkkigiaaaGreatDoor

set_option linter.unusedVariables false
set_option maxRecDepth 20000
set_option maxHeartbeats 8000000
namespace Go.Proofs.YtmmclabkkigiaaaGreatDoor
open Go Go.RowKit
set_option linter.unusedSimpArgs false
set_option linter.unusedVariables false

def eAdd_M (img : List Int) (l : List (Int × Int)) (gw : Int) (gi : Int) (gb : Int) (n_ : Int) (xn_ : ByteArray) (xi_ : Int) : Option (Int × List (Int × Int)) :=
 (emay2_M gi xi_).bind fun r10 =>
if r10 = 0 then (if (igetM img l gw gi gb n_).2 = 0 then (if (igetM img l gw gi gb n_).1.k = 2 then ((tfind_M img l gw gi gb n_ xn_).bind fun r34 =>
if r34.2.2.2 = 0 then (some (9, l)) else (if r34.2.2.2 = 6 then ((tadd_M img l gw gi gb n_ xn_ xi_).bind fun r56 =>
some (r56.1, r56.2)) else (some (r34.2.2.2, l)))) else (some (10, l))) else ((some ((igetM img l gw gi gb n_).2)).bind fun r91 =>
if r91 = 0 then (none) else (some (r91, l)))) else (some (r10, l))

theorem eAdd_walk {img : List Int} {l : List (Int × Int)} {gw : Int} {gi : Int} {gb : Int} {n_ : Int} {xn_ : ByteArray} {xi_ : Int} {vb : Nat} {r : Int × List (Int × Int)} (B : Nat) (w : World) (hG : 1 < B) (hT : CellsAt (some ⟨1, 0, none⟩) tab8 w) (hm : eAdd_M img l gw gi gb n_ xn_ xi_ = some r) : Spec Tryz.prog 19 #[(.pointer (some ⟨vb, 0, none⟩)), (.agg #[(.int .i64 gw), (.int .i64 gi), (.int .i64 gb)]), (.int .i64 n_), (.agg #[(.string xn_), (.int .i64 xi_)])] B w [viewA (ptr vb) img l] (fun v H' => v = .int .i64 r.1 ∧ H' = [viewA (ptr vb) img r.2]) := by
 refine spec_W Tryz.func19 rfl fun l0 hs => ?_
 unfold eAdd_M at hm
 refine W.sr fun K1 hK1 => ?_
 refine zN [(.int .i64 gw), (.int .i64 gi), (.int .i64 gb)] 31 hs fun b4 w2 hs3 => ?_
 refine zN [(.string xn_), (.int .i64 xi_)] 33 hs3 fun b7 w5 hs6 => ?_
 refine zE 1 (hK1 _ _ ?_)
 refine W.seq fun K8 hK8 => ?_
 refine W.sr fun K9 hK9 => ?_
 refine zR 1 ?_
 refine ops_R (runs_loadAgg (ad := ⟨b4, 0, none⟩) (cs := [(.int .i64 gw), (.int .i64 gi), (.int .i64 gb)]) (by kernel_rfl) (cells_sub (hs6.heapAt 1 rfl) rfl)) ?_
 refine ops_R (runs_loadAgg (ad := ⟨b7, 0, none⟩) (cs := [(.string xn_), (.int .i64 xi_)]) (by kernel_rfl) (cells_sub (hs6.heapAt 0 rfl) rfl)) ?_
 obtain ⟨r10, h11, hm⟩ := bind_some hm
 refine zC00 hs6 (emay2_walk (vb := vb) (gw := gw) (gi := gi) (gb := gb) (xn_ := xn_) (xi_ := xi_) (hm := h11) B _) fun w12 hs14 => ?_
 refine zE 1 (hK9 _ _ ?_)
 refine W.sr fun K15 hK15 => ?_
 refine zE 2 (hK15 _ _ ?_)
 refine W.cond (!decide (r10 = 0)) (by kernel_rfl) (fun h16 => ?_) (fun h16 => ?_)
 rotate_left
 ·
  have h16p : r10 = 0 := of_decide_eq_true (bnot_false h16)
  replace hm := ite_yes hm h16p
  refine W.skip ?_
  refine hK8 _ _ ?_
  refine W.sr fun K18 hK18 => ?_
  refine zR 1 ?_
  refine ops_R (runs_loadAgg (ad := ⟨b4, 0, none⟩) (cs := [(.int .i64 gw), (.int .i64 gi), (.int .i64 gb)]) (by kernel_rfl) (cells_sub (hs14.heapAt 1 rfl) rfl)) ?_
  refine zR 1 ?_
  rcases Bool.eq_false_or_eq_true (decide ((igetM img l gw gi gb n_).2 = 0)) with h19 | h19
  ·
   obtain ⟨h19p, hm⟩ := iY hm h19
   rcases Bool.eq_false_or_eq_true (decide ((igetM img l gw gi gb n_).1.k = 2)) with h20 | h20
   ·
    obtain ⟨h20p, hm⟩ := iY hm h20
    refine ops_call0 hs14 (by kernel_rfl) (eopen_ok (gw := gw) (gi := gi) (gb := gb) (n_ := n_) (hv := (hs14.entAt 2 rfl viewA_at)) (hP := h19p) (hK := h20p) B _) ?_
    rintro _ _ w22 ⟨b21, rfl, rfl⟩ hs23
    have hs24 := St.ap1 hs23
    refine zR 3 ?_
    refine zN [(.pointer none), (.int .i64 0), (.int .i64 0), (.int .i64 0), (.pointer none)] 97 hs24 fun b27 w25 hs26 => ?_
    refine ops_store (off := 0) (cs := [(.pointer none), (.int .i64 0), (.int .i64 0), (.int .i64 0), (.pointer none)]) (vs := [(.pointer (some ⟨vb, 0, none⟩)), (.int .i64 gw), (.int .i64 gi), (.int .i64 gb), (.pointer (some ⟨b21, 0, none⟩))]) hs26 (by kernel_rfl) (by simp) rfl (fun w28 hs29 => ?_)
    have hs30 : St B w l0 w28 [blk b27 (.cells [(.pointer (some ⟨vb, 0, none⟩)), (.int .i64 gw), (.int .i64 gi), (.int .i64 gb), (.pointer (some ⟨b21, 0, none⟩))].toArray 97 (0, 0)), blk b21 (.cells [(.pointer (some ⟨vb, 0, none⟩)), (.int .i64 gw), (.int .i64 gi), (.int .i64 gb), (.int .i64 n_)].toArray 164 (0, 0)), blk b7 (.cells [(.string xn_), (.int .i64 xi_)].toArray 33 (0, 0)), blk b4 (.cells [(.int .i64 gw), (.int .i64 gi), (.int .i64 gb)].toArray 31 (0, 0)), viewA (ptr vb) img l] := hs29
    refine zE 1 (hK18 _ _ ?_)
    refine W.seq fun K31 hK31 => ?_
    refine W.sr fun K32 hK32 => ?_
    refine zE 2 (hK32 _ _ ?_)
    refine W.cond_false false (by kernel_rfl) rfl ?_
    refine W.skip ?_
    refine hK31 _ _ ?_
    refine W.sr fun K33 hK33 => ?_
    refine ops_R (runs_loadAgg (ad := ⟨b27, 0, none⟩) (cs := [(.pointer (some ⟨vb, 0, none⟩)), (.int .i64 gw), (.int .i64 gi), (.int .i64 gb), (.pointer (some ⟨b21, 0, none⟩))]) (by kernel_rfl) (cells_sub (hs30.heapAt 0 rfl) rfl)) ?_
    refine zR 1 ?_
    refine zL ⟨b7, 0, none⟩ (.string xn_) (hs30.cellAt 2 rfl rfl) ?_
    obtain ⟨r34, h35, hm⟩ := bind_some hm
    have hs36 := St.f4 hs30
    have hs37 := St.f2 hs36
    refine zC22 hs37 (tfind_walk (mb := b21) (vb := vb) (tx_ := xn_) (img := img) (l := l) (gw := gw) (gi := gi) (gb := gb) (n_ := n_) (hm := h35) B _) fun w38 hs40 => ?_
    refine zR 4 ?_
    refine zN [(.string ByteArray.empty), (.int .i64 0)] 33 hs40 fun b43 w41 hs42 => ?_
    refine ops_store (off := 0) (cs := [(.string ByteArray.empty), (.int .i64 0)]) (vs := [(.string r34.1), (.int .i64 r34.2.1)]) hs42 (by kernel_rfl) (by simp) rfl (fun w44 hs45 => ?_)
    have hs46 : St B w l0 w44 [blk b43 (.cells [(.string r34.1), (.int .i64 r34.2.1)].toArray 33 (0, 0)), blk b21 (.cells [(.pointer (some ⟨vb, 0, none⟩)), (.int .i64 gw), (.int .i64 gi), (.int .i64 gb), (.int .i64 n_)].toArray 164 (0, 0)), viewA (ptr vb) img l, blk b27 (.cells [(.pointer (some ⟨vb, 0, none⟩)), (.int .i64 gw), (.int .i64 gi), (.int .i64 gb), (.pointer (some ⟨b21, 0, none⟩))].toArray 97 (0, 0)), blk b7 (.cells [(.string xn_), (.int .i64 xi_)].toArray 33 (0, 0)), blk b4 (.cells [(.int .i64 gw), (.int .i64 gi), (.int .i64 gb)].toArray 31 (0, 0))] := hs45
    refine zE 2 (hK33 _ _ ?_)
    refine W.sr fun K47 hK47 => ?_
    refine zE 1 (hK47 _ _ ?_)
    refine W.block ?_
    refine W.sr fun K48 hK48 => ?_
    refine zE 2 (hK48 _ _ ?_)
    refine W.cond (decide (r34.2.2.2 = 0)) (by kernel_rfl) (fun h49 => ?_) (fun h49 => ?_)
    ·
     obtain ⟨h49p, hm⟩ := iY hm h49
     refine W.sr fun K50 hK50 => ?_
     refine zE 1 (hK50 _ _ ?_)
     refine W.ret (ret_block ?_)
     obtain rfl := some_inj hm
     have hs51 := St.f2 hs46
     have hs52 := St.tk1 hs51
     refine ret_of (.int .i64 9) (by kernel_rfl) ⟨_, ⟨rfl, rfl⟩, hs52⟩
    ·
     obtain ⟨h49p, hm⟩ := iN hm h49
     refine W.sr fun K53 hK53 => ?_
     refine zE 2 (hK53 _ _ ?_)
     refine W.cond (decide (r34.2.2.2 = 6)) (by kernel_rfl) (fun h54 => ?_) (fun h54 => ?_)
     ·
      obtain ⟨h54p, hm⟩ := iY hm h54
      refine W.sr fun K55 hK55 => ?_
      refine ops_R (runs_loadAgg (ad := ⟨b27, 0, none⟩) (cs := [(.pointer (some ⟨vb, 0, none⟩)), (.int .i64 gw), (.int .i64 gi), (.int .i64 gb), (.pointer (some ⟨b21, 0, none⟩))]) (by kernel_rfl) (cells_sub (hs46.heapAt 3 rfl) rfl)) ?_
      refine ops_R (runs_loadAgg (ad := ⟨b7, 0, none⟩) (cs := [(.string xn_), (.int .i64 xi_)]) (by kernel_rfl) (cells_sub (hs46.heapAt 4 rfl) rfl)) ?_
      obtain ⟨r56, h57, hm⟩ := bind_some hm
      have hs58 := St.f2 hs46
      have hs59 := St.f2 hs58
      refine zC22 hs59 (tadd_walk (mb := b21) (vb := vb) (hG := hG) (hT := (hs46.oldCellsB hG hT)) (xn_ := xn_) (xi_ := xi_) (img := img) (l := l) (gw := gw) (gi := gi) (gb := gb) (n_ := n_) (hm := h57) B _) fun w60 hs62 => ?_
      refine zE 1 (hK55 _ _ ?_)
      refine W.ret (ret_block ?_)
      obtain rfl := some_inj hm
      have hs63 := St.f1 hs62
      have hs64 := St.tk1 hs63
      refine ret_of (.int .i64 r56.1) (by kernel_rfl) ⟨_, ⟨rfl, rfl⟩, hs64⟩
     ·
      obtain ⟨h54p, hm⟩ := iN hm h54
      refine W.sr fun K65 hK65 => ?_
      refine zE 2 (hK65 _ _ ?_)
      refine W.ret (ret_block ?_)
      obtain rfl := some_inj hm
      have hs66 := St.f2 hs46
      have hs67 := St.tk1 hs66
      refine ret_of (.int .i64 r34.2.2.2) (by kernel_rfl) ⟨_, ⟨rfl, rfl⟩, hs67⟩
   ·
    obtain ⟨h20p, hm⟩ := iN hm h20
    refine zC00 hs14 (eopen_dir (gw := gw) (gi := gi) (gb := gb) (n_ := n_) (hv := (hs14.entAt 2 rfl viewA_at)) (hP := h19p) (hK := h20p) B _) fun w68 hs70 => ?_
    refine zR 3 ?_
    refine zN [(.pointer none), (.int .i64 0), (.int .i64 0), (.int .i64 0), (.pointer none)] 97 hs70 fun b73 w71 hs72 => ?_
    refine ops_store (off := 0) (cs := [(.pointer none), (.int .i64 0), (.int .i64 0), (.int .i64 0), (.pointer none)]) (vs := [(.pointer none), (.int .i64 0), (.int .i64 0), (.int .i64 0), (.pointer none)]) hs72 (by kernel_rfl) (by simp) rfl (fun w74 hs75 => ?_)
    have hs76 : St B w l0 w74 [blk b73 (.cells [(.pointer none), (.int .i64 0), (.int .i64 0), (.int .i64 0), (.pointer none)].toArray 97 (0, 0)), blk b7 (.cells [(.string xn_), (.int .i64 xi_)].toArray 33 (0, 0)), blk b4 (.cells [(.int .i64 gw), (.int .i64 gi), (.int .i64 gb)].toArray 31 (0, 0)), viewA (ptr vb) img l] := hs75
    refine zE 1 (hK18 _ _ ?_)
    refine W.seq fun K77 hK77 => ?_
    refine W.sr fun K78 hK78 => ?_
    refine zE 2 (hK78 _ _ ?_)
    refine W.cond_true true (by kernel_rfl) rfl ?_
    refine W.sr fun K79 hK79 => ?_
    refine zE 2 (hK79 _ _ ?_)
    refine W.ret (ret_seq ?_)
    obtain rfl := some_inj hm
    have hs80 := St.f3 hs76
    have hs81 := St.tk1 hs80
    refine ret_of (.int .i64 10) (by kernel_rfl) ⟨_, ⟨rfl, rfl⟩, hs81⟩
  ·
   obtain ⟨h19p, hm⟩ := iN hm h19
   refine zC00 hs14 (eopen_err (gw := gw) (gi := gi) (gb := gb) (n_ := n_) (hv := (hs14.entAt 2 rfl viewA_at)) (hN := h19p) B _) fun w82 hs84 => ?_
   refine zR 3 ?_
   refine zN [(.pointer none), (.int .i64 0), (.int .i64 0), (.int .i64 0), (.pointer none)] 97 hs84 fun b87 w85 hs86 => ?_
   refine ops_store (off := 0) (cs := [(.pointer none), (.int .i64 0), (.int .i64 0), (.int .i64 0), (.pointer none)]) (vs := [(.pointer none), (.int .i64 0), (.int .i64 0), (.int .i64 0), (.pointer none)]) hs86 (by kernel_rfl) (by simp) rfl (fun w88 hs89 => ?_)
   have hs90 : St B w l0 w88 [blk b87 (.cells [(.pointer none), (.int .i64 0), (.int .i64 0), (.int .i64 0), (.pointer none)].toArray 97 (0, 0)), blk b7 (.cells [(.string xn_), (.int .i64 xi_)].toArray 33 (0, 0)), blk b4 (.cells [(.int .i64 gw), (.int .i64 gi), (.int .i64 gb)].toArray 31 (0, 0)), viewA (ptr vb) img l] := hs89
   refine zR 1 ?_
   obtain ⟨r91, h92, hm⟩ := bind_some hm
   replace h92 := some_inj h92
   refine ops_set 11 (v := .int .i64 r91) (Eq.trans (by kernel_rfl) (congrArg (Value.int .i64) h92)) ?_
   refine zD (hK18 _ _ ?_)
   refine W.seq fun K93 hK93 => ?_
   refine W.sr fun K94 hK94 => ?_
   refine zE 2 (hK94 _ _ ?_)
   refine W.cond (!decide (r91 = 0)) (by kernel_rfl) (fun h95 => ?_) (fun h95 => ?_)
   rotate_left
   ·
    have h95p : r91 = 0 := of_decide_eq_true (bnot_false h95)
    exact absurd h95p (fun e_ => h19p (h92.trans e_))
   ·
    have h95p : ¬ (r91 = 0) := of_decide_eq_false (bnot_true h95)
    replace hm := ite_no hm h95p
    refine W.sr fun K96 hK96 => ?_
    refine zE 2 (hK96 _ _ ?_)
    refine W.ret (ret_seq ?_)
    obtain rfl := some_inj hm
    have hs97 := St.f3 hs90
    have hs98 := St.tk1 hs97
    refine ret_of (.int .i64 r91) (by kernel_rfl) ⟨_, ⟨rfl, rfl⟩, hs98⟩
 ·
  have h16p : ¬ (r10 = 0) := of_decide_eq_false (bnot_true h16)
  replace hm := ite_no hm h16p
  refine W.sr fun K99 hK99 => ?_
  refine zE 2 (hK99 _ _ ?_)
  refine W.ret (ret_seq ?_)
  obtain rfl := some_inj hm
  have hs100 := St.f2 hs14
  have hs101 := St.tk1 hs100
  refine ret_of (.int .i64 r10) (by kernel_rfl) ⟨_, ⟨rfl, rfl⟩, hs101⟩

def eChange_M (img : List Int) (l : List (Int × Int)) (gw : Int) (gi : Int) (gb : Int) (n_ : Int) (xn_ : ByteArray) (xi_ : Int) : Option (Int × List (Int × Int)) :=
 (emay2_M gi xi_).bind fun r10 =>
if r10 = 0 then (if (igetM img l gw gi gb n_).2 = 0 then (if (igetM img l gw gi gb n_).1.k = 2 then ((tfind_M img l gw gi gb n_ xn_).bind fun r34 =>
if r34.2.2.2 = 0 then ((bat_M img l gw gi gb n_ r34.2.2.1).bind fun r51 =>
if r51.2 = 0 then (need (0 ≤ xi_ ∧ xi_ ≤ 18446744073709551615) <|
some ((vwrite img l (placeOf 9 gw gi gb r51.1) xi_).1, (vwrite img l (placeOf 9 gw gi gb r51.1) xi_).2)) else (some (r51.2, l))) else (some (r34.2.2.2, l))) else (some (10, l))) else ((some ((igetM img l gw gi gb n_).2)).bind fun r117 =>
if r117 = 0 then (none) else (some (r117, l)))) else (some (r10, l))

theorem eChange_walk {img : List Int} {l : List (Int × Int)} {gw : Int} {gi : Int} {gb : Int} {n_ : Int} {xn_ : ByteArray} {xi_ : Int} {vb : Nat} {r : Int × List (Int × Int)} (B : Nat) (w : World) (hm : eChange_M img l gw gi gb n_ xn_ xi_ = some r) : Spec Tryz.prog 20 #[(.pointer (some ⟨vb, 0, none⟩)), (.agg #[(.int .i64 gw), (.int .i64 gi), (.int .i64 gb)]), (.int .i64 n_), (.agg #[(.string xn_), (.int .i64 xi_)])] B w [viewA (ptr vb) img l] (fun v H' => v = .int .i64 r.1 ∧ H' = [viewA (ptr vb) img r.2]) := by
 refine spec_W Tryz.func20 rfl fun l0 hs => ?_
 unfold eChange_M at hm
 refine W.sr fun K1 hK1 => ?_
 refine zN [(.int .i64 gw), (.int .i64 gi), (.int .i64 gb)] 31 hs fun b4 w2 hs3 => ?_
 refine zN [(.string xn_), (.int .i64 xi_)] 33 hs3 fun b7 w5 hs6 => ?_
 refine zE 1 (hK1 _ _ ?_)
 refine W.seq fun K8 hK8 => ?_
 refine W.sr fun K9 hK9 => ?_
 refine zR 1 ?_
 refine ops_R (runs_loadAgg (ad := ⟨b4, 0, none⟩) (cs := [(.int .i64 gw), (.int .i64 gi), (.int .i64 gb)]) (by kernel_rfl) (cells_sub (hs6.heapAt 1 rfl) rfl)) ?_
 refine ops_R (runs_loadAgg (ad := ⟨b7, 0, none⟩) (cs := [(.string xn_), (.int .i64 xi_)]) (by kernel_rfl) (cells_sub (hs6.heapAt 0 rfl) rfl)) ?_
 obtain ⟨r10, h11, hm⟩ := bind_some hm
 refine zC00 hs6 (emay2_walk (vb := vb) (gw := gw) (gi := gi) (gb := gb) (xn_ := xn_) (xi_ := xi_) (hm := h11) B _) fun w12 hs14 => ?_
 refine zE 1 (hK9 _ _ ?_)
 refine W.sr fun K15 hK15 => ?_
 refine zE 2 (hK15 _ _ ?_)
 refine W.cond (!decide (r10 = 0)) (by kernel_rfl) (fun h16 => ?_) (fun h16 => ?_)
 rotate_left
 ·
  have h16p : r10 = 0 := of_decide_eq_true (bnot_false h16)
  replace hm := ite_yes hm h16p
  refine W.skip ?_
  refine hK8 _ _ ?_
  refine W.sr fun K18 hK18 => ?_
  refine zR 1 ?_
  refine ops_R (runs_loadAgg (ad := ⟨b4, 0, none⟩) (cs := [(.int .i64 gw), (.int .i64 gi), (.int .i64 gb)]) (by kernel_rfl) (cells_sub (hs14.heapAt 1 rfl) rfl)) ?_
  refine zR 1 ?_
  rcases Bool.eq_false_or_eq_true (decide ((igetM img l gw gi gb n_).2 = 0)) with h19 | h19
  ·
   obtain ⟨h19p, hm⟩ := iY hm h19
   rcases Bool.eq_false_or_eq_true (decide ((igetM img l gw gi gb n_).1.k = 2)) with h20 | h20
   ·
    obtain ⟨h20p, hm⟩ := iY hm h20
    refine ops_call0 hs14 (by kernel_rfl) (eopen_ok (gw := gw) (gi := gi) (gb := gb) (n_ := n_) (hv := (hs14.entAt 2 rfl viewA_at)) (hP := h19p) (hK := h20p) B _) ?_
    rintro _ _ w22 ⟨b21, rfl, rfl⟩ hs23
    have hs24 := St.ap1 hs23
    refine zR 3 ?_
    refine zN [(.pointer none), (.int .i64 0), (.int .i64 0), (.int .i64 0), (.pointer none)] 97 hs24 fun b27 w25 hs26 => ?_
    refine ops_store (off := 0) (cs := [(.pointer none), (.int .i64 0), (.int .i64 0), (.int .i64 0), (.pointer none)]) (vs := [(.pointer (some ⟨vb, 0, none⟩)), (.int .i64 gw), (.int .i64 gi), (.int .i64 gb), (.pointer (some ⟨b21, 0, none⟩))]) hs26 (by kernel_rfl) (by simp) rfl (fun w28 hs29 => ?_)
    have hs30 : St B w l0 w28 [blk b27 (.cells [(.pointer (some ⟨vb, 0, none⟩)), (.int .i64 gw), (.int .i64 gi), (.int .i64 gb), (.pointer (some ⟨b21, 0, none⟩))].toArray 97 (0, 0)), blk b21 (.cells [(.pointer (some ⟨vb, 0, none⟩)), (.int .i64 gw), (.int .i64 gi), (.int .i64 gb), (.int .i64 n_)].toArray 164 (0, 0)), blk b7 (.cells [(.string xn_), (.int .i64 xi_)].toArray 33 (0, 0)), blk b4 (.cells [(.int .i64 gw), (.int .i64 gi), (.int .i64 gb)].toArray 31 (0, 0)), viewA (ptr vb) img l] := hs29
    refine zE 1 (hK18 _ _ ?_)
    refine W.seq fun K31 hK31 => ?_
    refine W.sr fun K32 hK32 => ?_
    refine zE 2 (hK32 _ _ ?_)
    refine W.cond_false false (by kernel_rfl) rfl ?_
    refine W.skip ?_
    refine hK31 _ _ ?_
    refine W.sr fun K33 hK33 => ?_
    refine ops_R (runs_loadAgg (ad := ⟨b27, 0, none⟩) (cs := [(.pointer (some ⟨vb, 0, none⟩)), (.int .i64 gw), (.int .i64 gi), (.int .i64 gb), (.pointer (some ⟨b21, 0, none⟩))]) (by kernel_rfl) (cells_sub (hs30.heapAt 0 rfl) rfl)) ?_
    refine zR 1 ?_
    refine zL ⟨b7, 0, none⟩ (.string xn_) (hs30.cellAt 2 rfl rfl) ?_
    obtain ⟨r34, h35, hm⟩ := bind_some hm
    have hs36 := St.f4 hs30
    have hs37 := St.f2 hs36
    refine zC22 hs37 (tfind_walk (mb := b21) (vb := vb) (tx_ := xn_) (img := img) (l := l) (gw := gw) (gi := gi) (gb := gb) (n_ := n_) (hm := h35) B _) fun w38 hs40 => ?_
    refine zR 4 ?_
    refine zN [(.string ByteArray.empty), (.int .i64 0)] 33 hs40 fun b43 w41 hs42 => ?_
    refine ops_store (off := 0) (cs := [(.string ByteArray.empty), (.int .i64 0)]) (vs := [(.string r34.1), (.int .i64 r34.2.1)]) hs42 (by kernel_rfl) (by simp) rfl (fun w44 hs45 => ?_)
    have hs46 : St B w l0 w44 [blk b43 (.cells [(.string r34.1), (.int .i64 r34.2.1)].toArray 33 (0, 0)), blk b21 (.cells [(.pointer (some ⟨vb, 0, none⟩)), (.int .i64 gw), (.int .i64 gi), (.int .i64 gb), (.int .i64 n_)].toArray 164 (0, 0)), viewA (ptr vb) img l, blk b27 (.cells [(.pointer (some ⟨vb, 0, none⟩)), (.int .i64 gw), (.int .i64 gi), (.int .i64 gb), (.pointer (some ⟨b21, 0, none⟩))].toArray 97 (0, 0)), blk b7 (.cells [(.string xn_), (.int .i64 xi_)].toArray 33 (0, 0)), blk b4 (.cells [(.int .i64 gw), (.int .i64 gi), (.int .i64 gb)].toArray 31 (0, 0))] := hs45
    refine zE 2 (hK33 _ _ ?_)
    refine W.seq fun K47 hK47 => ?_
    refine W.sr fun K48 hK48 => ?_
    refine zE 2 (hK48 _ _ ?_)
    refine W.cond (!decide (r34.2.2.2 = 0)) (by kernel_rfl) (fun h49 => ?_) (fun h49 => ?_)
    rotate_left
    ·
     have h49p : r34.2.2.2 = 0 := of_decide_eq_true (bnot_false h49)
     replace hm := ite_yes hm h49p
     refine W.skip ?_
     refine hK47 _ _ ?_
     refine W.sr fun K50 hK50 => ?_
     refine zR 1 ?_
     refine zL ⟨b27, 4, none⟩ (.pointer (some ⟨b21, 0, none⟩)) (hs46.cellAt 3 rfl rfl) ?_
     refine zR 1 ?_
     obtain ⟨r51, h52, hm⟩ := bind_some hm
     refine zC00 hs46 (bat_walk (k_ := r34.2.2.1) (img := img) (l := l) (gw := gw) (gi := gi) (gb := gb) (n_ := n_) (hmb := (hs46.heapAt 1 rfl)) (hv := (hs46.entAt 2 rfl viewA_at)) (hm := h52) B _) fun w53 hs55 => ?_
     refine zE 5 (hK50 _ _ ?_)
     refine W.seq fun K56 hK56 => ?_
     refine W.sr fun K57 hK57 => ?_
     refine zE 2 (hK57 _ _ ?_)
     refine W.cond (!decide (r51.2 = 0)) (by kernel_rfl) (fun h58 => ?_) (fun h58 => ?_)
     rotate_left
     ·
      have h58p : r51.2 = 0 := of_decide_eq_true (bnot_false h58)
      replace hm := ite_yes hm h58p
      refine W.skip ?_
      refine hK56 _ _ ?_
      refine W.seq fun K59 hK59 => ?_
      have hs60 := hs55.drew
      have hs61 := St.f5 hs60
      have hs62 := St.f5 hs61
      have hs63 := St.f5 hs62
      have hs64 := St.f4 hs63
      have hs65 := St.f4 hs64
      have hs66 := St.tk5 hs65
      refine W.regionD [(0, 0), (0, 0), (0, 0), (6, 6), (0, 0), (16, 16), (32, 32), (73, 73), (255, 128)] (fun w_ => St B w l0 w_ [blk b43 (.cells [(.string r34.1), (.int .i64 r34.2.1)].toArray 33 (0, 0)), blk b21 (.cells [(.pointer (some ⟨vb, 0, none⟩)), (.int .i64 gw), (.int .i64 gi), (.int .i64 gb), (.int .i64 n_)].toArray 164 (0, 0)), blk b27 (.cells [(.pointer (some ⟨vb, 0, none⟩)), (.int .i64 gw), (.int .i64 gi), (.int .i64 gb), (.pointer (some ⟨b21, 0, none⟩))].toArray 97 (0, 0)), blk b7 (.cells [(.string xn_), (.int .i64 xi_)].toArray 33 (0, 0)), blk b4 (.cells [(.int .i64 gw), (.int .i64 gi), (.int .i64 gb)].toArray 31 (0, 0))]) (by kernel_rfl) hs66 ?_
      refine any_val (v := (.pointer (some ⟨vb, 0, none⟩))) (v' := (.pointer (some ⟨vb, 0, none⟩))) 0 (by kernel_rfl) (fun _ => by kernel_rfl) rfl hs66 ?_
      refine any_R 1 (by kernel_rfl) (fun _ hS_ => runs_loadAgg (ad := ⟨b4, 0, none⟩) (cs := [(.int .i64 gw), (.int .i64 gi), (.int .i64 gb)]) (by kernel_rfl) (cells_sub (hS_.heapAt 4 rfl) rfl)) hs66 ?_
      refine any_val (v := (.int .i64 r51.1)) (v' := (.int .i64 r51.1)) 2 (by kernel_rfl) (fun _ => by kernel_rfl) rfl hs66 ?_
      refine any_val (v := (.pointer (some ⟨b7, 1, none⟩))) (v' := (.pointer (some ⟨b7, 1, none⟩))) 4 (by kernel_rfl) (fun _ => by kernel_rfl) rfl hs66 ?_
      refine any_R 5 (by kernel_rfl) (fun _ hS_ => runs_load (ad := ⟨b7, 1, none⟩) (v := (.int .i64 xi_)) (by kernel_rfl) (hS_.cellAt 3 rfl rfl)) hs66 ?_
      obtain ⟨h67, hm⟩ := need_some hm
      refine any_val (v := .int .u64 (IntKind.u64.wrap xi_)) (v' := .int .u64 xi_) 6 (by kernel_rfl) (fun _ => by kernel_rfl) (congrArg (Value.int .u64) (wrap_u64 h67.1 (Int.lt_of_le_of_lt h67.2 (by decide)))) hs66 ?_
      refine any_step 3 (by kernel_rfl) (by kernel_rfl) ?_
      refine zC00 hs60 (blockat_spec (gw := gw) (gi := gi) (gb := gb) (n_ := r51.1) B _) fun w68 hs70 => ?_
      have hs71 := St.f5 hs70
      have hs72 := St.f5 hs71
      have hs73 := St.f5 hs72
      have hs74 := St.f4 hs73
      have hs75 := St.f4 hs74
      have hs76 := St.tk5 hs75
      refine ops_done (by kernel_rfl) ⟨hs76, ?_⟩
      refine any_step 7 (by kernel_rfl) (by kernel_rfl) ?_
      have hs77 := St.f2 hs70
      refine zC11 hs77 (sset_spec (b := vb) (img := img) (l := l) (at_ := (placeOf 9 gw gi gb r51.1)) (x_ := xi_) B _) fun w78 hs80 => ?_
      have hs81 := St.f5 hs80
      have hs82 := St.f5 hs81
      have hs83 := St.f5 hs82
      have hs84 := St.f5 hs83
      have hs85 := St.f5 hs84
      have hs86 := St.tk5 hs85
      refine ops_done (by kernel_rfl) ⟨hs86, ?_⟩
      refine any_val (v := (.int .i64 ((vwrite img l (placeOf 9 gw gi gb r51.1) xi_).1))) (v' := (.int .i64 ((vwrite img l (placeOf 9 gw gi gb r51.1) xi_).1))) 8 (by kernel_rfl) (fun _ => by kernel_rfl) rfl hs86 ?_
      refine any_done (by kernel_rfl) ?_
      refine hK59 _ _ ?_
      refine W.ret ?_
      obtain rfl := some_inj hm
      have hs87 := St.tk1 hs80
      refine ret_of (.int .i64 ((vwrite img l (placeOf 9 gw gi gb r51.1) xi_).1)) (by kernel_rfl) ⟨_, ⟨rfl, rfl⟩, hs87⟩
     ·
      have h58p : ¬ (r51.2 = 0) := of_decide_eq_false (bnot_true h58)
      replace hm := ite_no hm h58p
      refine W.sr fun K88 hK88 => ?_
      refine zE 2 (hK88 _ _ ?_)
      refine W.ret (ret_seq ?_)
      obtain rfl := some_inj hm
      have hs89 := St.f2 hs55
      have hs90 := St.tk1 hs89
      refine ret_of (.int .i64 r51.2) (by kernel_rfl) ⟨_, ⟨rfl, rfl⟩, hs90⟩
    ·
     have h49p : ¬ (r34.2.2.2 = 0) := of_decide_eq_false (bnot_true h49)
     replace hm := ite_no hm h49p
     refine W.sr fun K91 hK91 => ?_
     refine zE 2 (hK91 _ _ ?_)
     refine W.ret (ret_seq ?_)
     obtain rfl := some_inj hm
     have hs92 := St.f2 hs46
     have hs93 := St.tk1 hs92
     refine ret_of (.int .i64 r34.2.2.2) (by kernel_rfl) ⟨_, ⟨rfl, rfl⟩, hs93⟩
   ·
    obtain ⟨h20p, hm⟩ := iN hm h20
    refine zC00 hs14 (eopen_dir (gw := gw) (gi := gi) (gb := gb) (n_ := n_) (hv := (hs14.entAt 2 rfl viewA_at)) (hP := h19p) (hK := h20p) B _) fun w94 hs96 => ?_
    refine zR 3 ?_
    refine zN [(.pointer none), (.int .i64 0), (.int .i64 0), (.int .i64 0), (.pointer none)] 97 hs96 fun b99 w97 hs98 => ?_
    refine ops_store (off := 0) (cs := [(.pointer none), (.int .i64 0), (.int .i64 0), (.int .i64 0), (.pointer none)]) (vs := [(.pointer none), (.int .i64 0), (.int .i64 0), (.int .i64 0), (.pointer none)]) hs98 (by kernel_rfl) (by simp) rfl (fun w100 hs101 => ?_)
    have hs102 : St B w l0 w100 [blk b99 (.cells [(.pointer none), (.int .i64 0), (.int .i64 0), (.int .i64 0), (.pointer none)].toArray 97 (0, 0)), blk b7 (.cells [(.string xn_), (.int .i64 xi_)].toArray 33 (0, 0)), blk b4 (.cells [(.int .i64 gw), (.int .i64 gi), (.int .i64 gb)].toArray 31 (0, 0)), viewA (ptr vb) img l] := hs101
    refine zE 1 (hK18 _ _ ?_)
    refine W.seq fun K103 hK103 => ?_
    refine W.sr fun K104 hK104 => ?_
    refine zE 2 (hK104 _ _ ?_)
    refine W.cond_true true (by kernel_rfl) rfl ?_
    refine W.sr fun K105 hK105 => ?_
    refine zE 2 (hK105 _ _ ?_)
    refine W.ret (ret_seq ?_)
    obtain rfl := some_inj hm
    have hs106 := St.f3 hs102
    have hs107 := St.tk1 hs106
    refine ret_of (.int .i64 10) (by kernel_rfl) ⟨_, ⟨rfl, rfl⟩, hs107⟩
  ·
   obtain ⟨h19p, hm⟩ := iN hm h19
   refine zC00 hs14 (eopen_err (gw := gw) (gi := gi) (gb := gb) (n_ := n_) (hv := (hs14.entAt 2 rfl viewA_at)) (hN := h19p) B _) fun w108 hs110 => ?_
   refine zR 3 ?_
   refine zN [(.pointer none), (.int .i64 0), (.int .i64 0), (.int .i64 0), (.pointer none)] 97 hs110 fun b113 w111 hs112 => ?_
   refine ops_store (off := 0) (cs := [(.pointer none), (.int .i64 0), (.int .i64 0), (.int .i64 0), (.pointer none)]) (vs := [(.pointer none), (.int .i64 0), (.int .i64 0), (.int .i64 0), (.pointer none)]) hs112 (by kernel_rfl) (by simp) rfl (fun w114 hs115 => ?_)
   have hs116 : St B w l0 w114 [blk b113 (.cells [(.pointer none), (.int .i64 0), (.int .i64 0), (.int .i64 0), (.pointer none)].toArray 97 (0, 0)), blk b7 (.cells [(.string xn_), (.int .i64 xi_)].toArray 33 (0, 0)), blk b4 (.cells [(.int .i64 gw), (.int .i64 gi), (.int .i64 gb)].toArray 31 (0, 0)), viewA (ptr vb) img l] := hs115
   refine zR 1 ?_
   obtain ⟨r117, h118, hm⟩ := bind_some hm
   replace h118 := some_inj h118
   refine ops_set 11 (v := .int .i64 r117) (Eq.trans (by kernel_rfl) (congrArg (Value.int .i64) h118)) ?_
   refine zD (hK18 _ _ ?_)
   refine W.seq fun K119 hK119 => ?_
   refine W.sr fun K120 hK120 => ?_
   refine zE 2 (hK120 _ _ ?_)
   refine W.cond (!decide (r117 = 0)) (by kernel_rfl) (fun h121 => ?_) (fun h121 => ?_)
   rotate_left
   ·
    have h121p : r117 = 0 := of_decide_eq_true (bnot_false h121)
    exact absurd h121p (fun e_ => h19p (h118.trans e_))
   ·
    have h121p : ¬ (r117 = 0) := of_decide_eq_false (bnot_true h121)
    replace hm := ite_no hm h121p
    refine W.sr fun K122 hK122 => ?_
    refine zE 2 (hK122 _ _ ?_)
    refine W.ret (ret_seq ?_)
    obtain rfl := some_inj hm
    have hs123 := St.f3 hs116
    have hs124 := St.tk1 hs123
    refine ret_of (.int .i64 r117) (by kernel_rfl) ⟨_, ⟨rfl, rfl⟩, hs124⟩
 ·
  have h16p : ¬ (r10 = 0) := of_decide_eq_false (bnot_true h16)
  replace hm := ite_no hm h16p
  refine W.sr fun K125 hK125 => ?_
  refine zE 2 (hK125 _ _ ?_)
  refine W.ret (ret_seq ?_)
  obtain rfl := some_inj hm
  have hs126 := St.f2 hs14
  have hs127 := St.tk1 hs126
  refine ret_of (.int .i64 r10) (by kernel_rfl) ⟨_, ⟨rfl, rfl⟩, hs127⟩

def eRemove_M (img : List Int) (l : List (Int × Int)) (gw : Int) (gi : Int) (gb : Int) (n_ : Int) (tx_ : ByteArray) : Option (Int × List (Int × Int)) :=
 if (igetM img l gw gi gb n_).2 = 0 then (if (igetM img l gw gi gb n_).1.k = 2 then ((tfind_M img l gw gi gb n_ tx_).bind fun r22 =>
if r22.2.2.2 = 0 then ((bDrop_M img l gw gi gb n_ r22.2.2.1).bind fun r39 =>
some (r39.1, r39.2)) else (some (r22.2.2.2, l))) else (some (10, l))) else ((some ((igetM img l gw gi gb n_).2)).bind fun r74 =>
if r74 = 0 then (none) else (some (r74, l)))

theorem eRemove_walk {img : List Int} {l : List (Int × Int)} {gw : Int} {gi : Int} {gb : Int} {n_ : Int} {tx_ : ByteArray} {vb : Nat} {r : Int × List (Int × Int)} (B : Nat) (w : World) (hm : eRemove_M img l gw gi gb n_ tx_ = some r) : Spec Tryz.prog 21 #[(.pointer (some ⟨vb, 0, none⟩)), (.agg #[(.int .i64 gw), (.int .i64 gi), (.int .i64 gb)]), (.int .i64 n_), (.string tx_)] B w [viewA (ptr vb) img l] (fun v H' => v = .int .i64 r.1 ∧ H' = [viewA (ptr vb) img r.2]) := by
 refine spec_W Tryz.func21 rfl fun l0 hs => ?_
 unfold eRemove_M at hm
 refine W.sr fun K1 hK1 => ?_
 refine zN [(.int .i64 gw), (.int .i64 gi), (.int .i64 gb)] 31 hs fun b4 w2 hs3 => ?_
 refine zE 1 (hK1 _ _ ?_)
 refine W.sr fun K6 hK6 => ?_
 refine zR 1 ?_
 refine ops_R (runs_loadAgg (ad := ⟨b4, 0, none⟩) (cs := [(.int .i64 gw), (.int .i64 gi), (.int .i64 gb)]) (by kernel_rfl) (cells_sub (hs3.heapAt 0 rfl) rfl)) ?_
 refine zR 1 ?_
 rcases Bool.eq_false_or_eq_true (decide ((igetM img l gw gi gb n_).2 = 0)) with h7 | h7
 ·
  obtain ⟨h7p, hm⟩ := iY hm h7
  rcases Bool.eq_false_or_eq_true (decide ((igetM img l gw gi gb n_).1.k = 2)) with h8 | h8
  ·
   obtain ⟨h8p, hm⟩ := iY hm h8
   refine ops_call0 hs3 (by kernel_rfl) (eopen_ok (gw := gw) (gi := gi) (gb := gb) (n_ := n_) (hv := (hs3.entAt 1 rfl viewA_at)) (hP := h7p) (hK := h8p) B _) ?_
   rintro _ _ w10 ⟨b9, rfl, rfl⟩ hs11
   have hs12 := St.ap1 hs11
   refine zR 3 ?_
   refine zN [(.pointer none), (.int .i64 0), (.int .i64 0), (.int .i64 0), (.pointer none)] 97 hs12 fun b15 w13 hs14 => ?_
   refine ops_store (off := 0) (cs := [(.pointer none), (.int .i64 0), (.int .i64 0), (.int .i64 0), (.pointer none)]) (vs := [(.pointer (some ⟨vb, 0, none⟩)), (.int .i64 gw), (.int .i64 gi), (.int .i64 gb), (.pointer (some ⟨b9, 0, none⟩))]) hs14 (by kernel_rfl) (by simp) rfl (fun w16 hs17 => ?_)
   have hs18 : St B w l0 w16 [blk b15 (.cells [(.pointer (some ⟨vb, 0, none⟩)), (.int .i64 gw), (.int .i64 gi), (.int .i64 gb), (.pointer (some ⟨b9, 0, none⟩))].toArray 97 (0, 0)), blk b9 (.cells [(.pointer (some ⟨vb, 0, none⟩)), (.int .i64 gw), (.int .i64 gi), (.int .i64 gb), (.int .i64 n_)].toArray 164 (0, 0)), blk b4 (.cells [(.int .i64 gw), (.int .i64 gi), (.int .i64 gb)].toArray 31 (0, 0)), viewA (ptr vb) img l] := hs17
   refine zE 1 (hK6 _ _ ?_)
   refine W.seq fun K19 hK19 => ?_
   refine W.sr fun K20 hK20 => ?_
   refine zE 2 (hK20 _ _ ?_)
   refine W.cond_false false (by kernel_rfl) rfl ?_
   refine W.skip ?_
   refine hK19 _ _ ?_
   refine W.sr fun K21 hK21 => ?_
   refine ops_R (runs_loadAgg (ad := ⟨b15, 0, none⟩) (cs := [(.pointer (some ⟨vb, 0, none⟩)), (.int .i64 gw), (.int .i64 gi), (.int .i64 gb), (.pointer (some ⟨b9, 0, none⟩))]) (by kernel_rfl) (cells_sub (hs18.heapAt 0 rfl) rfl)) ?_
   refine zR 1 ?_
   obtain ⟨r22, h23, hm⟩ := bind_some hm
   have hs24 := St.f3 hs18
   have hs25 := St.f2 hs24
   refine zC22 hs25 (tfind_walk (mb := b9) (vb := vb) (tx_ := tx_) (img := img) (l := l) (gw := gw) (gi := gi) (gb := gb) (n_ := n_) (hm := h23) B _) fun w26 hs28 => ?_
   refine zR 4 ?_
   refine zN [(.string ByteArray.empty), (.int .i64 0)] 33 hs28 fun b31 w29 hs30 => ?_
   refine ops_store (off := 0) (cs := [(.string ByteArray.empty), (.int .i64 0)]) (vs := [(.string r22.1), (.int .i64 r22.2.1)]) hs30 (by kernel_rfl) (by simp) rfl (fun w32 hs33 => ?_)
   have hs34 : St B w l0 w32 [blk b31 (.cells [(.string r22.1), (.int .i64 r22.2.1)].toArray 33 (0, 0)), blk b9 (.cells [(.pointer (some ⟨vb, 0, none⟩)), (.int .i64 gw), (.int .i64 gi), (.int .i64 gb), (.int .i64 n_)].toArray 164 (0, 0)), viewA (ptr vb) img l, blk b15 (.cells [(.pointer (some ⟨vb, 0, none⟩)), (.int .i64 gw), (.int .i64 gi), (.int .i64 gb), (.pointer (some ⟨b9, 0, none⟩))].toArray 97 (0, 0)), blk b4 (.cells [(.int .i64 gw), (.int .i64 gi), (.int .i64 gb)].toArray 31 (0, 0))] := hs33
   refine zE 2 (hK21 _ _ ?_)
   refine W.seq fun K35 hK35 => ?_
   refine W.sr fun K36 hK36 => ?_
   refine zE 2 (hK36 _ _ ?_)
   refine W.cond (!decide (r22.2.2.2 = 0)) (by kernel_rfl) (fun h37 => ?_) (fun h37 => ?_)
   rotate_left
   ·
    have h37p : r22.2.2.2 = 0 := of_decide_eq_true (bnot_false h37)
    replace hm := ite_yes hm h37p
    refine W.skip ?_
    refine hK35 _ _ ?_
    refine W.sr fun K38 hK38 => ?_
    refine zR 1 ?_
    refine zL ⟨b15, 4, none⟩ (.pointer (some ⟨b9, 0, none⟩)) (hs34.cellAt 3 rfl rfl) ?_
    refine zR 1 ?_
    obtain ⟨r39, h40, hm⟩ := bind_some hm
    have hs41 := St.f2 hs34
    have hs42 := St.f2 hs41
    refine zC22 hs42 (bDrop_walk (mb := b9) (vb := vb) (k_ := r22.2.2.1) (img := img) (l := l) (gw := gw) (gi := gi) (gb := gb) (n_ := n_) (hm := h40) B _) fun w43 hs45 => ?_
    refine zE 1 (hK38 _ _ ?_)
    refine W.ret ?_
    obtain rfl := some_inj hm
    have hs46 := St.f1 hs45
    have hs47 := St.tk1 hs46
    refine ret_of (.int .i64 r39.1) (by kernel_rfl) ⟨_, ⟨rfl, rfl⟩, hs47⟩
   ·
    have h37p : ¬ (r22.2.2.2 = 0) := of_decide_eq_false (bnot_true h37)
    replace hm := ite_no hm h37p
    refine W.sr fun K48 hK48 => ?_
    refine zE 2 (hK48 _ _ ?_)
    refine W.ret (ret_seq ?_)
    obtain rfl := some_inj hm
    have hs49 := St.f2 hs34
    have hs50 := St.tk1 hs49
    refine ret_of (.int .i64 r22.2.2.2) (by kernel_rfl) ⟨_, ⟨rfl, rfl⟩, hs50⟩
  ·
   obtain ⟨h8p, hm⟩ := iN hm h8
   refine zC00 hs3 (eopen_dir (gw := gw) (gi := gi) (gb := gb) (n_ := n_) (hv := (hs3.entAt 1 rfl viewA_at)) (hP := h7p) (hK := h8p) B _) fun w51 hs53 => ?_
   refine zR 3 ?_
   refine zN [(.pointer none), (.int .i64 0), (.int .i64 0), (.int .i64 0), (.pointer none)] 97 hs53 fun b56 w54 hs55 => ?_
   refine ops_store (off := 0) (cs := [(.pointer none), (.int .i64 0), (.int .i64 0), (.int .i64 0), (.pointer none)]) (vs := [(.pointer none), (.int .i64 0), (.int .i64 0), (.int .i64 0), (.pointer none)]) hs55 (by kernel_rfl) (by simp) rfl (fun w57 hs58 => ?_)
   have hs59 : St B w l0 w57 [blk b56 (.cells [(.pointer none), (.int .i64 0), (.int .i64 0), (.int .i64 0), (.pointer none)].toArray 97 (0, 0)), blk b4 (.cells [(.int .i64 gw), (.int .i64 gi), (.int .i64 gb)].toArray 31 (0, 0)), viewA (ptr vb) img l] := hs58
   refine zE 1 (hK6 _ _ ?_)
   refine W.seq fun K60 hK60 => ?_
   refine W.sr fun K61 hK61 => ?_
   refine zE 2 (hK61 _ _ ?_)
   refine W.cond_true true (by kernel_rfl) rfl ?_
   refine W.sr fun K62 hK62 => ?_
   refine zE 2 (hK62 _ _ ?_)
   refine W.ret (ret_seq ?_)
   obtain rfl := some_inj hm
   have hs63 := St.f2 hs59
   have hs64 := St.tk1 hs63
   refine ret_of (.int .i64 10) (by kernel_rfl) ⟨_, ⟨rfl, rfl⟩, hs64⟩
 ·
  obtain ⟨h7p, hm⟩ := iN hm h7
  refine zC00 hs3 (eopen_err (gw := gw) (gi := gi) (gb := gb) (n_ := n_) (hv := (hs3.entAt 1 rfl viewA_at)) (hN := h7p) B _) fun w65 hs67 => ?_
  refine zR 3 ?_
  refine zN [(.pointer none), (.int .i64 0), (.int .i64 0), (.int .i64 0), (.pointer none)] 97 hs67 fun b70 w68 hs69 => ?_
  refine ops_store (off := 0) (cs := [(.pointer none), (.int .i64 0), (.int .i64 0), (.int .i64 0), (.pointer none)]) (vs := [(.pointer none), (.int .i64 0), (.int .i64 0), (.int .i64 0), (.pointer none)]) hs69 (by kernel_rfl) (by simp) rfl (fun w71 hs72 => ?_)
  have hs73 : St B w l0 w71 [blk b70 (.cells [(.pointer none), (.int .i64 0), (.int .i64 0), (.int .i64 0), (.pointer none)].toArray 97 (0, 0)), blk b4 (.cells [(.int .i64 gw), (.int .i64 gi), (.int .i64 gb)].toArray 31 (0, 0)), viewA (ptr vb) img l] := hs72
  refine zR 1 ?_
  obtain ⟨r74, h75, hm⟩ := bind_some hm
  replace h75 := some_inj h75
  refine ops_set 10 (v := .int .i64 r74) (Eq.trans (by kernel_rfl) (congrArg (Value.int .i64) h75)) ?_
  refine zD (hK6 _ _ ?_)
  refine W.seq fun K76 hK76 => ?_
  refine W.sr fun K77 hK77 => ?_
  refine zE 2 (hK77 _ _ ?_)
  refine W.cond (!decide (r74 = 0)) (by kernel_rfl) (fun h78 => ?_) (fun h78 => ?_)
  rotate_left
  ·
   have h78p : r74 = 0 := of_decide_eq_true (bnot_false h78)
   exact absurd h78p (fun e_ => h7p (h75.trans e_))
  ·
   have h78p : ¬ (r74 = 0) := of_decide_eq_false (bnot_true h78)
   replace hm := ite_no hm h78p
   refine W.sr fun K79 hK79 => ?_
   refine zE 2 (hK79 _ _ ?_)
   refine W.ret (ret_seq ?_)
   obtain rfl := some_inj hm
   have hs80 := St.f2 hs73
   have hs81 := St.tk1 hs80
   refine ret_of (.int .i64 r74) (by kernel_rfl) ⟨_, ⟨rfl, rfl⟩, hs81⟩

end Go.Proofs.YtmmclabkkigiaaaGreatDoor

namespace Go.Proofs.YtmmclabkkigiaaaGreatDoor
open Go Go.RowKit
set_option linter.unusedSimpArgs false
set_option linter.unusedVariables false

structure TEn where
  c0 : ByteArray
  c1 : Int

def kEn : Kind TEn := ⟨33, 2, fun x => [.string x.c0, .int .i64 x.c1], by decide, fun _ => rfl, fun _ => rfl⟩
structure TSt15 where
  c0 : Int
  c1 : Int
  c2 : ByteArray
  c3 : Int
  c4 : Bool

def dSt15 : TSt15 := (⟨0, 0, .empty, 0, false⟩ : TSt15)
def kSt15 : Kind TSt15 := ⟨57, 5, fun x => [.int .u8 x.c0, .int .i64 x.c1, .string x.c2, .int .i64 x.c3, .bool x.c4], by decide, fun _ => rfl, fun _ => rfl⟩
def good_St15 (x : TSt15) : Prop := (0 ≤ x.c0 ∧ x.c0 ≤ 255) ∧ (-9223372036854775808 ≤ x.c1 ∧ x.c1 ≤ 9223372036854775807) ∧ (-9223372036854775808 ≤ x.c3 ∧ x.c3 ≤ 9223372036854775807)

end Go.Proofs.YtmmclabkkigiaaaGreatDoor

set_option linter.unusedVariables false
set_option maxRecDepth 20000
set_option maxHeartbeats 8000000
namespace Go.Proofs.YtmmclabkkigiaaaGreatDoor
open Go Go.RowKit
set_option linter.unusedSimpArgs false
set_option linter.unusedVariables false

def eList_D46 (q44 : List TEn) : Option (List TEn × Int) :=
 some (q44, 0)

def eList_X46 (p47 : Int) : Option (List TEn × Int) :=
 some ([], p47)

def eList_R46 (img : List Int) (l : List (Int × Int)) (gw : Int) (gi : Int) (gb : Int) (n_ : Int) (k40 : Nat) (c41 : (List TEn) → Option (List TEn × Int)) (q44 : List TEn) : Option (List TEn × Int) :=
 (some (((0 : Int) + (k40 : Int)) % 12)).bind fun r113 =>
(tentry_M img l gw gi gb n_ r113).bind fun r118 =>
if r118.2.2 = 0 then (if r118.1 = ByteArray.empty ∧ r118.2.1 = 0 then (c41 q44) else (need (q44.length + ([(⟨r118.1, r118.2.1⟩ : TEn)]).length ≤ 1000000000) <|
c41 (q44 ++ [(⟨r118.1, r118.2.1⟩ : TEn)]))) else (eList_X46 r118.2.2)

def eList_M (img : List Int) (l : List (Int × Int)) (gw : Int) (gi : Int) (gb : Int) (n_ : Int) : Option (List TEn × Int) :=
 if (igetM img l gw gi gb n_).2 = 0 then (if (igetM img l gw gi gb n_).1.k = 2 then (need ((0 : Int) ≤ 0 ∧ (0 : Int) ≤ 12) <|
rounds (fun k_ c_ s_ => eList_R46 img l gw gi gb n_ k_ c_ s_) (fun s_ => eList_D46 s_) 12 0 ([])) else (some ([], 10))) else (if (igetM img l gw gi gb n_).2 = 0 then (none) else (some ([], (igetM img l gw gi gb n_).2)))

theorem eList_walk {img : List Int} {l : List (Int × Int)} {gw : Int} {gi : Int} {gb : Int} {n_ : Int} {vb : Nat} {r : List TEn × Int} (B : Nat) (w : World) (hm : eList_M img l gw gi gb n_ = some r) : Spec Tryz.prog 14 #[(.pointer (some ⟨vb, 0, none⟩)), (.agg #[(.int .i64 gw), (.int .i64 gi), (.int .i64 gb)]), (.int .i64 n_)] B w [viewA (ptr vb) img l] (fun v H' => ∃ a' c', v = .tuple #[.slice a' r.1.length c', .int .i64 r.2] ∧ H' = [kEn.row a' c' r.1, viewA (ptr vb) img l]) := by
 refine spec_W Tryz.func14 rfl fun l0 hs => ?_
 unfold eList_M at hm
 refine W.sr fun K1 hK1 => ?_
 refine zN [(.int .i64 gw), (.int .i64 gi), (.int .i64 gb)] 31 hs fun b4 w2 hs3 => ?_
 refine zN [(.slice none 0 0)] 37 hs3 fun b7 w5 hs6 => ?_
 refine zN [(.int .i64 0)] 34 hs6 fun b10 w8 hs9 => ?_
 refine zD (hK1 _ _ ?_)
 refine W.sr fun K13 hK13 => ?_
 refine zR 1 ?_
 refine ops_R (runs_loadAgg (ad := ⟨b4, 0, none⟩) (cs := [(.int .i64 gw), (.int .i64 gi), (.int .i64 gb)]) (by kernel_rfl) (cells_sub (hs9.heapAt 2 rfl) rfl)) ?_
 refine zR 1 ?_
 rcases Bool.eq_false_or_eq_true (decide ((igetM img l gw gi gb n_).2 = 0)) with h14 | h14
 ·
  obtain ⟨h14p, hm⟩ := iY hm h14
  rcases Bool.eq_false_or_eq_true (decide ((igetM img l gw gi gb n_).1.k = 2)) with h15 | h15
  ·
   obtain ⟨h15p, hm⟩ := iY hm h15
   refine ops_call0 hs9 (by kernel_rfl) (eopen_ok (gw := gw) (gi := gi) (gb := gb) (n_ := n_) (hv := (hs9.entAt 3 rfl viewA_at)) (hP := h14p) (hK := h15p) B _) ?_
   rintro _ _ w17 ⟨b16, rfl, rfl⟩ hs18
   have hs19 := St.ap1 hs18
   refine zR 3 ?_
   refine zN [(.pointer none), (.int .i64 0), (.int .i64 0), (.int .i64 0), (.pointer none)] 97 hs19 fun b22 w20 hs21 => ?_
   refine ops_store (off := 0) (cs := [(.pointer none), (.int .i64 0), (.int .i64 0), (.int .i64 0), (.pointer none)]) (vs := [(.pointer (some ⟨vb, 0, none⟩)), (.int .i64 gw), (.int .i64 gi), (.int .i64 gb), (.pointer (some ⟨b16, 0, none⟩))]) hs21 (by kernel_rfl) (by simp) rfl (fun w23 hs24 => ?_)
   have hs25 : St B w l0 w23 [blk b22 (.cells [(.pointer (some ⟨vb, 0, none⟩)), (.int .i64 gw), (.int .i64 gi), (.int .i64 gb), (.pointer (some ⟨b16, 0, none⟩))].toArray 97 (0, 0)), blk b16 (.cells [(.pointer (some ⟨vb, 0, none⟩)), (.int .i64 gw), (.int .i64 gi), (.int .i64 gb), (.int .i64 n_)].toArray 164 (0, 0)), blk b10 (.cells [(.int .i64 0)].toArray 34 (0, 0)), blk b7 (.cells [(.slice none 0 0)].toArray 37 (0, 0)), blk b4 (.cells [(.int .i64 gw), (.int .i64 gi), (.int .i64 gb)].toArray 31 (0, 0)), viewA (ptr vb) img l] := hs24
   have hs28 := St.f2 hs25
   refine ops_store (off := 0) (cs := [(.int .i64 0)]) (vs := [(.int .i64 0)]) hs28 (by kernel_rfl) (by simp) rfl (fun w26 hs27 => ?_)
   have hs29 : St B w l0 w26 [blk b10 (.cells [(.int .i64 0)].toArray 34 (0, 0)), blk b22 (.cells [(.pointer (some ⟨vb, 0, none⟩)), (.int .i64 gw), (.int .i64 gi), (.int .i64 gb), (.pointer (some ⟨b16, 0, none⟩))].toArray 97 (0, 0)), blk b16 (.cells [(.pointer (some ⟨vb, 0, none⟩)), (.int .i64 gw), (.int .i64 gi), (.int .i64 gb), (.int .i64 n_)].toArray 164 (0, 0)), blk b7 (.cells [(.slice none 0 0)].toArray 37 (0, 0)), blk b4 (.cells [(.int .i64 gw), (.int .i64 gi), (.int .i64 gb)].toArray 31 (0, 0)), viewA (ptr vb) img l] := hs27
   refine zD (hK13 _ _ ?_)
   refine W.seq fun K30 hK30 => ?_
   refine W.sr fun K31 hK31 => ?_
   refine zL ⟨b10, 0, none⟩ (.int .i64 0) (hs29.cellAt 0 rfl rfl) ?_
   refine zE 1 (hK31 _ _ ?_)
   refine W.cond_false false (by kernel_rfl) rfl ?_
   refine W.skip ?_
   refine hK30 _ _ ?_
   refine W.seq fun K32 hK32 => ?_
   refine W.sr fun K33 hK33 => ?_
   refine ops_call0 hs29 (by kernel_rfl) (around_spec (f_ := 0) B _) ?_
   rintro _ _ w35 ⟨b34, rfl, rfl⟩ hs36
   have hs37 := St.ap1 hs36
   refine zD (hK33 _ _ ?_)
   refine W.block ?_
   obtain ⟨h38, hm⟩ := need_some hm
   refine W.norm (n := 41) (l := [(6, (.pointer (some ⟨b7, 0, none⟩))), (7, (.pointer (some ⟨b10, 0, none⟩))), (8, (.pointer (some ⟨b22, 0, none⟩))), (22, (.func (.func 83) #[] #[(.pointer (some ⟨b34, 0, none⟩))]))]) (by kernel_rfl) (fun us39 => ?_)
   have hs45 := St.knil kEn hs37
   have hs52 := St.f6 hs45
   have hs53 := St.f6 hs52
   have hs54 := St.f2 hs53
   have hs55 := St.f5 hs54
   have hs56 := St.f6 hs55
   have hs57 := St.f7 hs56
   have hs58 := St.f7 hs57
   have hs59 := St.f7 hs58
   have hF60 : rounds (fun k_ c_ s_ => eList_R46 img l gw gi gb n_ k_ c_ s_) (fun s_ => eList_D46 s_) (12 - 0) 0 ([]) = some r := by rw [Nat.sub_zero]; exact hm
   clear hm
   refine W.roundsA (G := (List TEn) × (Option Addr) × Nat) (GZ := Int) (gf := 83) (lb := #[(.pointer (some ⟨b34, 0, none⟩))]) 12 (fun k_ (q44, m42, m43) => rounds (fun k_ c_ s_ => eList_R46 img l gw gi gb n_ k_ c_ s_) (fun s_ => eList_D46 s_) (12 - k_) k_ q44 = some r) (fun (q44, m42, m43) => [blk b10 (.cells [(.int .i64 0)].toArray 34 (0, 0)), viewA (ptr vb) img l, blk b16 (.cells [(.pointer (some ⟨vb, 0, none⟩)), (.int .i64 gw), (.int .i64 gi), (.int .i64 gb), (.int .i64 n_)].toArray 164 (0, 0)), blk b22 (.cells [(.pointer (some ⟨vb, 0, none⟩)), (.int .i64 gw), (.int .i64 gi), (.int .i64 gb), (.pointer (some ⟨b16, 0, none⟩))].toArray 97 (0, 0)), kEn.row m42 m43 q44, blk b7 (.cells [(.slice m42 q44.length m43)].toArray 37 (0, 0)), blk b4 (.cells [(.int .i64 gw), (.int .i64 gi), (.int .i64 gb)].toArray 31 (0, 0))]) .ret (fun p47 => eList_X46 p47 = some r) (fun p47 => [blk b10 (.cells [(.int .i64 p47)].toArray 34 (0, 0)), viewA (ptr vb) img l, blk b16 (.cells [(.pointer (some ⟨vb, 0, none⟩)), (.int .i64 gw), (.int .i64 gi), (.int .i64 gb), (.int .i64 n_)].toArray 164 (0, 0)), blk b22 (.cells [(.pointer (some ⟨vb, 0, none⟩)), (.int .i64 gw), (.int .i64 gi), (.int .i64 gb), (.pointer (some ⟨b16, 0, none⟩))].toArray 97 (0, 0)), blk b7 (.cells [(.slice none 0 0)].toArray 37 (0, 0)), blk b4 (.cells [(.int .i64 gw), (.int .i64 gi), (.int .i64 gb)].toArray 31 (0, 0))]) [blk b34 (.cells [(.int .i64 0)].toArray 3 (0, 0))] (fun k_ => #[(.int .i64 (((0 : Int) + (k_ : Int)) % 12))]) (fun k_ l_ => slotsD 41 ((23, (.int .i64 (((0 : Int) + (k_ : Int)) % 12))) :: [(6, (.pointer (some ⟨b7, 0, none⟩))), (7, (.pointer (some ⟨b10, 0, none⟩))), (8, (.pointer (some ⟨b22, 0, none⟩))), (22, (.func (.func 83) #[] #[(.pointer (some ⟨b34, 0, none⟩))]))]) us39 (some l_) []) ([], none, 0) hF60 hs59 rfl (by kernel_rfl) (fun _ _ => by kernel_rfl) (fun _ => rfl) (fun a_ k_ l_ h1_ h2_ => ⟨rel_round1 (n := 41) (by decide) h1_ h2_, rfl⟩) (fun l_ => #[.func (.yield l_) #[] #[], (.pointer (some ⟨b34, 0, none⟩))]) (fun _ => rfl) (fun l_ w_ Y_ Z_ hy_ => around1_spec (f_ := 0) (yl := l_) (Y := Y_) (Z := Z_) (hf := h38) (hy := fun k_ h_ w_ => hy_ k_ h_ w_) _ w_) ?_ ?_ ?_
   rotate_left
   ·
    rintro D51 w61 ⟨q44, m42, m43⟩ hF63 hs62
    replace hF63 : rounds (fun k_ c_ s_ => eList_R46 img l gw gi gb n_ k_ c_ s_) (fun s_ => eList_D46 s_) (12 - 12) 12 q44 = some r := hF63
    rw [rounds_end] at hF63
    have hm : eList_D46 q44 = some r := hF63
    clear hF63
    unfold eList_D46 at hm
    have hs64 : St B w l0 w61 [blk D51 (.deferred (some [])), blk b34 (.cells [(.int .i64 0)].toArray 3 (0, 0)), blk b10 (.cells [(.int .i64 0)].toArray 34 (0, 0)), viewA (ptr vb) img l, blk b16 (.cells [(.pointer (some ⟨vb, 0, none⟩)), (.int .i64 gw), (.int .i64 gi), (.int .i64 gb), (.int .i64 n_)].toArray 164 (0, 0)), blk b22 (.cells [(.pointer (some ⟨vb, 0, none⟩)), (.int .i64 gw), (.int .i64 gi), (.int .i64 gb), (.pointer (some ⟨b16, 0, none⟩))].toArray 97 (0, 0)), kEn.row m42 m43 q44, blk b7 (.cells [(.slice m42 q44.length m43)].toArray 37 (0, 0)), blk b4 (.cells [(.int .i64 gw), (.int .i64 gi), (.int .i64 gb)].toArray 31 (0, 0))] := hs62
    refine normal_block ?_
    refine hK32 _ _ ?_
    refine W.sr fun K65 hK65 => ?_
    refine zL ⟨b7, 0, none⟩ (.slice m42 q44.length m43) (hs64.cellAt 7 rfl rfl) ?_
    have hs68 := St.f7 hs64
    refine ops_store (off := 0) (cs := [(.slice m42 q44.length m43)]) (vs := [(.slice m42 q44.length m43)]) hs68 (by kernel_rfl) (by simp) rfl (fun w66 hs67 => ?_)
    have hs69 : St B w l0 w66 [blk b7 (.cells [(.slice m42 q44.length m43)].toArray 37 (0, 0)), blk D51 (.deferred (some [])), blk b34 (.cells [(.int .i64 0)].toArray 3 (0, 0)), blk b10 (.cells [(.int .i64 0)].toArray 34 (0, 0)), viewA (ptr vb) img l, blk b16 (.cells [(.pointer (some ⟨vb, 0, none⟩)), (.int .i64 gw), (.int .i64 gi), (.int .i64 gb), (.int .i64 n_)].toArray 164 (0, 0)), blk b22 (.cells [(.pointer (some ⟨vb, 0, none⟩)), (.int .i64 gw), (.int .i64 gi), (.int .i64 gb), (.pointer (some ⟨b16, 0, none⟩))].toArray 97 (0, 0)), kEn.row m42 m43 q44, blk b4 (.cells [(.int .i64 gw), (.int .i64 gi), (.int .i64 gb)].toArray 31 (0, 0))] := hs67
    have hs72 := St.f3 hs69
    refine ops_store (off := 0) (cs := [(.int .i64 0)]) (vs := [(.int .i64 0)]) hs72 (by kernel_rfl) (by simp) rfl (fun w70 hs71 => ?_)
    have hs73 : St B w l0 w70 [blk b10 (.cells [(.int .i64 0)].toArray 34 (0, 0)), blk b7 (.cells [(.slice m42 q44.length m43)].toArray 37 (0, 0)), blk D51 (.deferred (some [])), blk b34 (.cells [(.int .i64 0)].toArray 3 (0, 0)), viewA (ptr vb) img l, blk b16 (.cells [(.pointer (some ⟨vb, 0, none⟩)), (.int .i64 gw), (.int .i64 gi), (.int .i64 gb), (.int .i64 n_)].toArray 164 (0, 0)), blk b22 (.cells [(.pointer (some ⟨vb, 0, none⟩)), (.int .i64 gw), (.int .i64 gi), (.int .i64 gb), (.pointer (some ⟨b16, 0, none⟩))].toArray 97 (0, 0)), kEn.row m42 m43 q44, blk b4 (.cells [(.int .i64 gw), (.int .i64 gi), (.int .i64 gb)].toArray 31 (0, 0))] := hs71
    refine zD (hK65 _ _ ?_)
    refine W.ret ?_
    obtain rfl := some_inj hm
    have hs74 := St.f8 hs73
    have hs75 := St.f8 hs74
    have hs76 := St.f8 hs75
    have hs77 := St.f8 hs76
    have hs78 := St.f8 hs77
    have hs79 := St.f8 hs78
    have hs80 := St.f7 hs79
    have hs81 := St.f7 hs80
    have hs82 := St.f8 hs81
    refine leave_mark (D := D51) (v := (.tuple #[(.slice m42 q44.length m43), (.int .i64 0)])) hs82 (by kernel_rfl) (fun w83 hs84 => (resD_two rfl (.cell (ad := ⟨b7, 0, none⟩) (by kernel_rfl) (by kernel_rfl) (hs84.cellAt 1 rfl rfl)) (.cell (ad := ⟨b10, 0, none⟩) (by kernel_rfl) (by kernel_rfl) (hs84.cellAt 0 rfl rfl)))) (fun w83 hs84 => ?_)
    have hs85 := St.f3 hs84
    have hs86 := St.f6 hs85
    have hs87 := St.tk2 hs86
    exact ⟨_, ⟨m42, m43, rfl, rfl⟩, hs87⟩
   ·
    rintro D90 w88 p47 hm hs89
    replace hm : eList_X46 p47 = some r := hm
    unfold eList_X46 at hm
    have hs91 : St B w l0 w88 [blk D90 (.deferred (some [])), blk b34 (.cells [(.int .i64 0)].toArray 3 (0, 0)), blk b10 (.cells [(.int .i64 p47)].toArray 34 (0, 0)), viewA (ptr vb) img l, blk b16 (.cells [(.pointer (some ⟨vb, 0, none⟩)), (.int .i64 gw), (.int .i64 gi), (.int .i64 gb), (.int .i64 n_)].toArray 164 (0, 0)), blk b22 (.cells [(.pointer (some ⟨vb, 0, none⟩)), (.int .i64 gw), (.int .i64 gi), (.int .i64 gb), (.pointer (some ⟨b16, 0, none⟩))].toArray 97 (0, 0)), blk b7 (.cells [(.slice none 0 0)].toArray 37 (0, 0)), blk b4 (.cells [(.int .i64 gw), (.int .i64 gi), (.int .i64 gb)].toArray 31 (0, 0))] := hs89
    refine W.ret (ret_block (ret_seq ?_))
    have hs92 := St.knil kEn hs91
    obtain rfl := some_inj hm
    have hs93 := St.f8 hs92
    have hs94 := St.f8 hs93
    have hs95 := St.f8 hs94
    have hs96 := St.f8 hs95
    have hs97 := St.f8 hs96
    have hs98 := St.f8 hs97
    have hs99 := St.f8 hs98
    have hs100 := St.f7 hs99
    have hs101 := St.f8 hs100
    refine leave_mark (D := D90) (v := (.tuple #[(.slice none 0 0), (.int .i64 p47)])) hs101 (by kernel_rfl) (fun w102 hs103 => (resD_two rfl (.cell (ad := ⟨b7, 0, none⟩) (by kernel_rfl) (by kernel_rfl) (hs103.cellAt 6 rfl rfl)) (.cell (ad := ⟨b10, 0, none⟩) (by kernel_rfl) (by kernel_rfl) (hs103.cellAt 2 rfl rfl)))) (fun w102 hs103 => ?_)
    have hs104 := St.f3 hs103
    have hs105 := St.f1 hs104
    have hs106 := St.tk2 hs105
    exact ⟨_, ⟨none, 0, rfl, rfl⟩, hs106⟩
   ·
    rintro k40 hk107 rc49 l48 w108 ⟨q44, m42, m43⟩ hF112 lf109 hs110 K111 hK111
    replace hF112 : rounds (fun k_ c_ s_ => eList_R46 img l gw gi gb n_ k_ c_ s_) (fun s_ => eList_D46 s_) (12 - k40) k40 q44 = some r := hF112
    rw [rounds_at hk107] at hF112
    obtain ⟨c41, hc41⟩ : ∃ c_, c_ = rounds (fun k_ c_ s_ => eList_R46 img l gw gi gb n_ k_ c_ s_) (fun s_ => eList_D46 s_) (12 - (k40 + 1)) (k40 + 1) := ⟨_, rfl⟩
    rw [← hc41] at hF112
    have hm : eList_R46 img l gw gi gb n_ k40 c41 q44 = some r := hF112
    clear hF112
    unfold eList_R46 at hm
    refine W.region ?_
    refine zR 1 ?_
    obtain ⟨r113, h114, hm⟩ := bind_some hm
    replace h114 := some_inj h114
    refine ops_set 9 (v := .int .i64 r113) (Eq.trans (by kernel_rfl) (congrArg (Value.int .i64) h114)) ?_
    refine zD ?_
    refine hK111 _ _ hs110 (fun w115 hs116 => ?_)
    refine W.block ?_
    refine W.sr fun K117 hK117 => ?_
    refine ops_R (runs_loadAgg (ad := ⟨b22, 0, none⟩) (cs := [(.pointer (some ⟨vb, 0, none⟩)), (.int .i64 gw), (.int .i64 gi), (.int .i64 gb), (.pointer (some ⟨b16, 0, none⟩))]) (by kernel_rfl) (cells_sub (hs116.heapAt 4 rfl) rfl)) ?_
    refine zR 1 ?_
    obtain ⟨r118, h119, hm⟩ := bind_some hm
    have hs120 := St.f2 hs116
    have hs121 := St.f3 hs120
    refine zC22 hs121 (tentry_walk (mb := b16) (vb := vb) (k_ := r113) (img := img) (l := l) (gw := gw) (gi := gi) (gb := gb) (n_ := n_) (hm := h119) B _) fun w122 hs124 => ?_
    refine zR 3 ?_
    refine zN [(.string ByteArray.empty), (.int .i64 0)] 33 hs124 fun b127 w125 hs126 => ?_
    refine ops_store (off := 0) (cs := [(.string ByteArray.empty), (.int .i64 0)]) (vs := [(.string r118.1), (.int .i64 r118.2.1)]) hs126 (by kernel_rfl) (by simp) rfl (fun w128 hs129 => ?_)
    have hs130 : St B w108 lf109 w128 [blk b127 (.cells [(.string r118.1), (.int .i64 r118.2.1)].toArray 33 (0, 0)), blk b16 (.cells [(.pointer (some ⟨vb, 0, none⟩)), (.int .i64 gw), (.int .i64 gi), (.int .i64 gb), (.int .i64 n_)].toArray 164 (0, 0)), viewA (ptr vb) img l, blk l48 (.loop { rc49 with state := .busy }), blk b10 (.cells [(.int .i64 0)].toArray 34 (0, 0)), blk b22 (.cells [(.pointer (some ⟨vb, 0, none⟩)), (.int .i64 gw), (.int .i64 gi), (.int .i64 gb), (.pointer (some ⟨b16, 0, none⟩))].toArray 97 (0, 0)), kEn.row m42 m43 q44, blk b7 (.cells [(.slice m42 q44.length m43)].toArray 37 (0, 0)), blk b4 (.cells [(.int .i64 gw), (.int .i64 gi), (.int .i64 gb)].toArray 31 (0, 0))] := hs129
    refine zE 1 (hK117 _ _ ?_)
    refine W.seq fun K131 hK131 => ?_
    refine W.sr fun K132 hK132 => ?_
    refine zE 2 (hK132 _ _ ?_)
    refine W.cond (!decide (r118.2.2 = 0)) (by kernel_rfl) (fun h133 => ?_) (fun h133 => ?_)
    rotate_left
    ·
     have h133p : r118.2.2 = 0 := of_decide_eq_true (bnot_false h133)
     replace hm := ite_yes hm h133p
     refine W.skip ?_
     refine hK131 _ _ ?_
     refine W.sr fun K134 hK134 => ?_
     refine ops_R (runs_loadAgg (ad := ⟨b127, 0, none⟩) (cs := [(.string r118.1), (.int .i64 r118.2.1)]) (by kernel_rfl) (cells_sub (hs130.heapAt 0 rfl) rfl)) ?_
     refine zR 1 ?_
     refine ops_R (v := (.bool (!((r118.1 == ByteArray.empty) && ((decide (r118.2.1 = 0)) && true))))) (runs_eq (b := !((r118.1 == ByteArray.empty) && ((decide (r118.2.1 = 0)) && true))) (by kernel_rfl)) ?_
     refine zD (hK134 _ _ ?_)
     refine W.cond (!((r118.1 == ByteArray.empty) && ((decide (r118.2.1 = 0)) && true))) (by kernel_rfl) (fun h135 => ?_) (fun h135 => ?_)
     rotate_left
     ·
      have h135p : r118.1 = ByteArray.empty ∧ r118.2.1 = 0 := by simpa using (bnot_false h135)
      replace hm := ite_yes hm h135p
      refine W.skip ?_
      refine normal_block ?_
      have hs136 := St.f8 hs130
      have hs137 := St.f8 hs136
      have hs138 := St.f8 hs137
      have hs139 := St.f8 hs138
      have hs140 := St.f5 hs139
      have hs141 := St.f6 hs140
      have hs142 := St.f8 hs141
      have hs143 := St.f8 hs142
      have hs144 := St.tk8 hs143
      rw [hc41] at hm
      exact ⟨(q44, m42, m43), hm, hs144⟩
     ·
      have h135p : ¬ (r118.1 = ByteArray.empty ∧ r118.2.1 = 0) := by simpa using (bnot_true h135)
      replace hm := ite_no hm h135p
      refine W.region ?_
      refine zL ⟨b7, 0, none⟩ (.slice m42 q44.length m43) (hs130.cellAt 7 rfl rfl) ?_
      refine ops_R (runs_loadAgg (ad := ⟨b127, 0, none⟩) (cs := [(.string r118.1), (.int .i64 r118.2.1)]) (by kernel_rfl) (cells_sub (hs130.heapAt 0 rfl) rfl)) ?_
      refine ops_new (fun b => .slice (some ⟨b, 0, none⟩) 1 1) (.cells [(.string r118.1), (.int .i64 r118.2.1)].toArray 33 (0, 0)) hs130 (by kernel_rfl) (fun b147 w145 hs146 => ?_)
      have hs148 := St.f7 hs146
      obtain ⟨h153, hm⟩ := need_some hm
      refine ops_appendK kEn (bytes := 24) (a' := (some ⟨b147, 0, none⟩)) (c' := 1) (l := q44) (m := [(⟨r118.1, r118.2.1⟩ : TEn)]) hs148 (by kernel_rfl) (by simp) (cells_blk (hs148.heapAt 1 rfl)) (by unfold maxLen; (try simp only [List.length_cons, List.length_nil]); omega) (by (try simp only [List.length_cons, List.length_nil]); omega) (fun a149 c150 w151 hs152 => ?_)
      have hs156 := St.f8 hs152
      refine ops_store (off := 0) (cs := [(.slice m42 q44.length m43)]) (vs := [(.slice a149 ((q44 ++ [(⟨r118.1, r118.2.1⟩ : TEn)]).length) c150)]) hs156 (by kernel_rfl) (by simp) rfl (fun w154 hs155 => ?_)
      have hs157 : St B w108 lf109 w154 [blk b7 (.cells [(.slice a149 ((q44 ++ [(⟨r118.1, r118.2.1⟩ : TEn)]).length) c150)].toArray 37 (0, 0)), kEn.row a149 c150 (q44 ++ [(⟨r118.1, r118.2.1⟩ : TEn)]), blk b147 (.cells [(.string r118.1), (.int .i64 r118.2.1)].toArray 33 (0, 0)), blk b127 (.cells [(.string r118.1), (.int .i64 r118.2.1)].toArray 33 (0, 0)), blk b16 (.cells [(.pointer (some ⟨vb, 0, none⟩)), (.int .i64 gw), (.int .i64 gi), (.int .i64 gb), (.int .i64 n_)].toArray 164 (0, 0)), viewA (ptr vb) img l, blk l48 (.loop { rc49 with state := .busy }), blk b10 (.cells [(.int .i64 0)].toArray 34 (0, 0)), blk b22 (.cells [(.pointer (some ⟨vb, 0, none⟩)), (.int .i64 gw), (.int .i64 gi), (.int .i64 gb), (.pointer (some ⟨b16, 0, none⟩))].toArray 97 (0, 0)), blk b4 (.cells [(.int .i64 gw), (.int .i64 gi), (.int .i64 gb)].toArray 31 (0, 0))] := hs155
      refine zD ?_
      refine normal_block ?_
      have hs158 := St.f9 hs157
      have hs159 := St.f1 hs158
      have hs160 := St.f2 hs159
      have hs161 := St.f9 hs160
      have hs162 := St.f6 hs161
      have hs163 := St.f7 hs162
      have hs164 := St.f9 hs163
      have hs165 := St.f9 hs164
      have hs166 := St.tk8 hs165
      rw [hc41] at hm
      exact ⟨((q44 ++ [(⟨r118.1, r118.2.1⟩ : TEn)]), a149, c150), hm, hs166⟩
    ·
     have h133p : ¬ (r118.2.2 = 0) := of_decide_eq_false (bnot_true h133)
     replace hm := ite_no hm h133p
     refine W.sr fun K167 hK167 => ?_
     refine zR 1 ?_
     have hs170 := St.f7 hs130
     refine ops_store (off := 0) (cs := [(.slice m42 q44.length m43)]) (vs := [(.slice none 0 0)]) hs170 (by kernel_rfl) (by simp) rfl (fun w168 hs169 => ?_)
     have hs171 : St B w108 lf109 w168 [blk b7 (.cells [(.slice none 0 0)].toArray 37 (0, 0)), blk b127 (.cells [(.string r118.1), (.int .i64 r118.2.1)].toArray 33 (0, 0)), blk b16 (.cells [(.pointer (some ⟨vb, 0, none⟩)), (.int .i64 gw), (.int .i64 gi), (.int .i64 gb), (.int .i64 n_)].toArray 164 (0, 0)), viewA (ptr vb) img l, blk l48 (.loop { rc49 with state := .busy }), blk b10 (.cells [(.int .i64 0)].toArray 34 (0, 0)), blk b22 (.cells [(.pointer (some ⟨vb, 0, none⟩)), (.int .i64 gw), (.int .i64 gi), (.int .i64 gb), (.pointer (some ⟨b16, 0, none⟩))].toArray 97 (0, 0)), kEn.row m42 m43 q44, blk b4 (.cells [(.int .i64 gw), (.int .i64 gi), (.int .i64 gb)].toArray 31 (0, 0))] := hs169
     have hs174 := St.f5 hs171
     refine ops_store (off := 0) (cs := [(.int .i64 0)]) (vs := [(.int .i64 r118.2.2)]) hs174 (by kernel_rfl) (by simp) rfl (fun w172 hs173 => ?_)
     have hs175 : St B w108 lf109 w172 [blk b10 (.cells [(.int .i64 r118.2.2)].toArray 34 (0, 0)), blk b7 (.cells [(.slice none 0 0)].toArray 37 (0, 0)), blk b127 (.cells [(.string r118.1), (.int .i64 r118.2.1)].toArray 33 (0, 0)), blk b16 (.cells [(.pointer (some ⟨vb, 0, none⟩)), (.int .i64 gw), (.int .i64 gi), (.int .i64 gb), (.int .i64 n_)].toArray 164 (0, 0)), viewA (ptr vb) img l, blk l48 (.loop { rc49 with state := .busy }), blk b22 (.cells [(.pointer (some ⟨vb, 0, none⟩)), (.int .i64 gw), (.int .i64 gi), (.int .i64 gb), (.pointer (some ⟨b16, 0, none⟩))].toArray 97 (0, 0)), kEn.row m42 m43 q44, blk b4 (.cells [(.int .i64 gw), (.int .i64 gi), (.int .i64 gb)].toArray 31 (0, 0))] := hs173
     refine zD (hK167 _ _ ?_)
     refine W.ret (ret_seq (ret_block ?_))
     have hs176 := St.f8 hs175
     have hs177 := St.f2 hs176
     have hs178 := St.f7 hs177
     have hs179 := St.f5 hs178
     have hs180 := St.f6 hs179
     have hs181 := St.f5 hs180
     have hs182 := St.f7 hs181
     have hs183 := St.tk7 hs182
     exact ⟨rfl, r118.2.2, hm, hs183⟩
  ·
   obtain ⟨h15p, hm⟩ := iN hm h15
   refine zC00 hs9 (eopen_dir (gw := gw) (gi := gi) (gb := gb) (n_ := n_) (hv := (hs9.entAt 3 rfl viewA_at)) (hP := h14p) (hK := h15p) B _) fun w184 hs186 => ?_
   refine zR 3 ?_
   refine zN [(.pointer none), (.int .i64 0), (.int .i64 0), (.int .i64 0), (.pointer none)] 97 hs186 fun b189 w187 hs188 => ?_
   refine ops_store (off := 0) (cs := [(.pointer none), (.int .i64 0), (.int .i64 0), (.int .i64 0), (.pointer none)]) (vs := [(.pointer none), (.int .i64 0), (.int .i64 0), (.int .i64 0), (.pointer none)]) hs188 (by kernel_rfl) (by simp) rfl (fun w190 hs191 => ?_)
   have hs192 : St B w l0 w190 [blk b189 (.cells [(.pointer none), (.int .i64 0), (.int .i64 0), (.int .i64 0), (.pointer none)].toArray 97 (0, 0)), blk b10 (.cells [(.int .i64 0)].toArray 34 (0, 0)), blk b7 (.cells [(.slice none 0 0)].toArray 37 (0, 0)), blk b4 (.cells [(.int .i64 gw), (.int .i64 gi), (.int .i64 gb)].toArray 31 (0, 0)), viewA (ptr vb) img l] := hs191
   have hs195 := St.f1 hs192
   refine ops_store (off := 0) (cs := [(.int .i64 0)]) (vs := [(.int .i64 10)]) hs195 (by kernel_rfl) (by simp) rfl (fun w193 hs194 => ?_)
   have hs196 : St B w l0 w193 [blk b10 (.cells [(.int .i64 10)].toArray 34 (0, 0)), blk b189 (.cells [(.pointer none), (.int .i64 0), (.int .i64 0), (.int .i64 0), (.pointer none)].toArray 97 (0, 0)), blk b7 (.cells [(.slice none 0 0)].toArray 37 (0, 0)), blk b4 (.cells [(.int .i64 gw), (.int .i64 gi), (.int .i64 gb)].toArray 31 (0, 0)), viewA (ptr vb) img l] := hs194
   refine zD (hK13 _ _ ?_)
   refine W.seq fun K197 hK197 => ?_
   refine W.sr fun K198 hK198 => ?_
   refine zL ⟨b10, 0, none⟩ (.int .i64 10) (hs196.cellAt 0 rfl rfl) ?_
   refine zE 1 (hK198 _ _ ?_)
   refine W.cond_true true (by kernel_rfl) rfl ?_
   refine W.seq fun K199 hK199 => ?_
   have hs200 := hs196.drew
   refine W.regionD [(0, 0), (0, 0), (3, 1)] (fun w_ => St B w l0 w_ [blk b10 (.cells [(.int .i64 10)].toArray 34 (0, 0)), blk b189 (.cells [(.pointer none), (.int .i64 0), (.int .i64 0), (.int .i64 0), (.pointer none)].toArray 97 (0, 0)), blk b7 (.cells [(.slice none 0 0)].toArray 37 (0, 0)), blk b4 (.cells [(.int .i64 gw), (.int .i64 gi), (.int .i64 gb)].toArray 31 (0, 0)), viewA (ptr vb) img l]) (by kernel_rfl) hs200 ?_
   refine any_R 0 (by kernel_rfl) (fun _ hS_ => runs_load (ad := ⟨b10, 0, none⟩) (v := (.int .i64 10)) (by kernel_rfl) (hS_.cellAt 0 rfl rfl)) hs200 ?_
   refine any_step 1 (by kernel_rfl) (by kernel_rfl) ?_
   have hs203 := St.f2 hs200
   refine ops_store (off := 0) (cs := [(.slice none 0 0)]) (vs := [(.slice none 0 0)]) hs203 (by kernel_rfl) (by simp) rfl (fun w201 hs202 => ?_)
   have hs204 : St B w l0 w201 [blk b7 (.cells [(.slice none 0 0)].toArray 37 (0, 0)), blk b10 (.cells [(.int .i64 10)].toArray 34 (0, 0)), blk b189 (.cells [(.pointer none), (.int .i64 0), (.int .i64 0), (.int .i64 0), (.pointer none)].toArray 97 (0, 0)), blk b4 (.cells [(.int .i64 gw), (.int .i64 gi), (.int .i64 gb)].toArray 31 (0, 0)), viewA (ptr vb) img l] := hs202
   have hs205 := St.f4 hs204
   have hs206 := St.f4 hs205
   have hs207 := St.f2 hs206
   have hs208 := St.f4 hs207
   have hs209 := St.f4 hs208
   refine ops_done (by kernel_rfl) ⟨hs209, ?_⟩
   refine any_step 2 (by kernel_rfl) (by kernel_rfl) ?_
   have hs212 := St.f1 hs204
   refine ops_store (off := 0) (cs := [(.int .i64 10)]) (vs := [(.int .i64 10)]) hs212 (by kernel_rfl) (by simp) rfl (fun w210 hs211 => ?_)
   have hs213 : St B w l0 w210 [blk b10 (.cells [(.int .i64 10)].toArray 34 (0, 0)), blk b7 (.cells [(.slice none 0 0)].toArray 37 (0, 0)), blk b189 (.cells [(.pointer none), (.int .i64 0), (.int .i64 0), (.int .i64 0), (.pointer none)].toArray 97 (0, 0)), blk b4 (.cells [(.int .i64 gw), (.int .i64 gi), (.int .i64 gb)].toArray 31 (0, 0)), viewA (ptr vb) img l] := hs211
   have hs214 := St.f4 hs213
   have hs215 := St.f4 hs214
   have hs216 := St.f3 hs215
   have hs217 := St.f4 hs216
   have hs218 := St.f4 hs217
   refine ops_done (by kernel_rfl) ⟨hs218, ?_⟩
   refine any_done (by kernel_rfl) ?_
   refine hK199 _ _ ?_
   refine W.ret (ret_seq ?_)
   have hs219 := St.knil kEn hs213
   obtain rfl := some_inj hm
   have hs220 := St.f5 hs219
   have hs221 := St.f1 hs220
   have hs222 := St.tk2 hs221
   refine ret_of (.tuple #[(.slice none 0 0), (.int .i64 10)]) (resS_of (by kernel_rfl) (resD_two rfl (.cell (ad := ⟨b7, 0, none⟩) (by kernel_rfl) (by kernel_rfl) (hs219.cellAt 2 rfl rfl)) (.cell (ad := ⟨b10, 0, none⟩) (by kernel_rfl) (by kernel_rfl) (hs219.cellAt 1 rfl rfl)))) ⟨_, ⟨none, 0, rfl, rfl⟩, hs222⟩
 ·
  obtain ⟨h14p, hm⟩ := iN hm h14
  refine zC00 hs9 (eopen_err (gw := gw) (gi := gi) (gb := gb) (n_ := n_) (hv := (hs9.entAt 3 rfl viewA_at)) (hN := h14p) B _) fun w223 hs225 => ?_
  refine zR 3 ?_
  refine zN [(.pointer none), (.int .i64 0), (.int .i64 0), (.int .i64 0), (.pointer none)] 97 hs225 fun b228 w226 hs227 => ?_
  refine ops_store (off := 0) (cs := [(.pointer none), (.int .i64 0), (.int .i64 0), (.int .i64 0), (.pointer none)]) (vs := [(.pointer none), (.int .i64 0), (.int .i64 0), (.int .i64 0), (.pointer none)]) hs227 (by kernel_rfl) (by simp) rfl (fun w229 hs230 => ?_)
  have hs231 : St B w l0 w229 [blk b228 (.cells [(.pointer none), (.int .i64 0), (.int .i64 0), (.int .i64 0), (.pointer none)].toArray 97 (0, 0)), blk b10 (.cells [(.int .i64 0)].toArray 34 (0, 0)), blk b7 (.cells [(.slice none 0 0)].toArray 37 (0, 0)), blk b4 (.cells [(.int .i64 gw), (.int .i64 gi), (.int .i64 gb)].toArray 31 (0, 0)), viewA (ptr vb) img l] := hs230
  have hs234 := St.f1 hs231
  refine ops_store (off := 0) (cs := [(.int .i64 0)]) (vs := [(.int .i64 ((igetM img l gw gi gb n_).2))]) hs234 (by kernel_rfl) (by simp) rfl (fun w232 hs233 => ?_)
  have hs235 : St B w l0 w232 [blk b10 (.cells [(.int .i64 ((igetM img l gw gi gb n_).2))].toArray 34 (0, 0)), blk b228 (.cells [(.pointer none), (.int .i64 0), (.int .i64 0), (.int .i64 0), (.pointer none)].toArray 97 (0, 0)), blk b7 (.cells [(.slice none 0 0)].toArray 37 (0, 0)), blk b4 (.cells [(.int .i64 gw), (.int .i64 gi), (.int .i64 gb)].toArray 31 (0, 0)), viewA (ptr vb) img l] := hs233
  refine zD (hK13 _ _ ?_)
  refine W.seq fun K236 hK236 => ?_
  refine W.sr fun K237 hK237 => ?_
  refine zL ⟨b10, 0, none⟩ (.int .i64 ((igetM img l gw gi gb n_).2)) (hs235.cellAt 0 rfl rfl) ?_
  refine zE 1 (hK237 _ _ ?_)
  refine W.cond (!decide ((igetM img l gw gi gb n_).2 = 0)) (by kernel_rfl) (fun h238 => ?_) (fun h238 => ?_)
  rotate_left
  ·
   have h238p : (igetM img l gw gi gb n_).2 = 0 := of_decide_eq_true (bnot_false h238)
   exact absurd h238p h14p
  ·
   have h238p : ¬ ((igetM img l gw gi gb n_).2 = 0) := of_decide_eq_false (bnot_true h238)
   replace hm := ite_no hm h238p
   refine W.seq fun K239 hK239 => ?_
   have hs240 := hs235.drew
   refine W.regionD [(0, 0), (0, 0), (3, 1)] (fun w_ => St B w l0 w_ [blk b10 (.cells [(.int .i64 ((igetM img l gw gi gb n_).2))].toArray 34 (0, 0)), blk b228 (.cells [(.pointer none), (.int .i64 0), (.int .i64 0), (.int .i64 0), (.pointer none)].toArray 97 (0, 0)), blk b7 (.cells [(.slice none 0 0)].toArray 37 (0, 0)), blk b4 (.cells [(.int .i64 gw), (.int .i64 gi), (.int .i64 gb)].toArray 31 (0, 0)), viewA (ptr vb) img l]) (by kernel_rfl) hs240 ?_
   refine any_R 0 (by kernel_rfl) (fun _ hS_ => runs_load (ad := ⟨b10, 0, none⟩) (v := (.int .i64 ((igetM img l gw gi gb n_).2))) (by kernel_rfl) (hS_.cellAt 0 rfl rfl)) hs240 ?_
   refine any_step 1 (by kernel_rfl) (by kernel_rfl) ?_
   have hs243 := St.f2 hs240
   refine ops_store (off := 0) (cs := [(.slice none 0 0)]) (vs := [(.slice none 0 0)]) hs243 (by kernel_rfl) (by simp) rfl (fun w241 hs242 => ?_)
   have hs244 : St B w l0 w241 [blk b7 (.cells [(.slice none 0 0)].toArray 37 (0, 0)), blk b10 (.cells [(.int .i64 ((igetM img l gw gi gb n_).2))].toArray 34 (0, 0)), blk b228 (.cells [(.pointer none), (.int .i64 0), (.int .i64 0), (.int .i64 0), (.pointer none)].toArray 97 (0, 0)), blk b4 (.cells [(.int .i64 gw), (.int .i64 gi), (.int .i64 gb)].toArray 31 (0, 0)), viewA (ptr vb) img l] := hs242
   have hs245 := St.f4 hs244
   have hs246 := St.f4 hs245
   have hs247 := St.f2 hs246
   have hs248 := St.f4 hs247
   have hs249 := St.f4 hs248
   refine ops_done (by kernel_rfl) ⟨hs249, ?_⟩
   refine any_step 2 (by kernel_rfl) (by kernel_rfl) ?_
   have hs252 := St.f1 hs244
   refine ops_store (off := 0) (cs := [(.int .i64 ((igetM img l gw gi gb n_).2))]) (vs := [(.int .i64 ((igetM img l gw gi gb n_).2))]) hs252 (by kernel_rfl) (by simp) rfl (fun w250 hs251 => ?_)
   have hs253 : St B w l0 w250 [blk b10 (.cells [(.int .i64 ((igetM img l gw gi gb n_).2))].toArray 34 (0, 0)), blk b7 (.cells [(.slice none 0 0)].toArray 37 (0, 0)), blk b228 (.cells [(.pointer none), (.int .i64 0), (.int .i64 0), (.int .i64 0), (.pointer none)].toArray 97 (0, 0)), blk b4 (.cells [(.int .i64 gw), (.int .i64 gi), (.int .i64 gb)].toArray 31 (0, 0)), viewA (ptr vb) img l] := hs251
   have hs254 := St.f4 hs253
   have hs255 := St.f4 hs254
   have hs256 := St.f3 hs255
   have hs257 := St.f4 hs256
   have hs258 := St.f4 hs257
   refine ops_done (by kernel_rfl) ⟨hs258, ?_⟩
   refine any_done (by kernel_rfl) ?_
   refine hK239 _ _ ?_
   refine W.ret (ret_seq ?_)
   have hs259 := St.knil kEn hs253
   obtain rfl := some_inj hm
   have hs260 := St.f5 hs259
   have hs261 := St.f1 hs260
   have hs262 := St.tk2 hs261
   refine ret_of (.tuple #[(.slice none 0 0), (.int .i64 ((igetM img l gw gi gb n_).2))]) (resS_of (by kernel_rfl) (resD_two rfl (.cell (ad := ⟨b7, 0, none⟩) (by kernel_rfl) (by kernel_rfl) (hs259.cellAt 2 rfl rfl)) (.cell (ad := ⟨b10, 0, none⟩) (by kernel_rfl) (by kernel_rfl) (hs259.cellAt 1 rfl rfl)))) ⟨_, ⟨none, 0, rfl, rfl⟩, hs262⟩

end Go.Proofs.YtmmclabkkigiaaaGreatDoor

set_option linter.unusedVariables false
set_option maxRecDepth 20000
set_option maxHeartbeats 8000000
namespace Go.Proofs.YtmmclabkkigiaaaGreatDoor
open Go Go.RowKit
set_option linter.unusedSimpArgs false
set_option linter.unusedVariables false

def works15_M  : Option (Bool) :=
 need ((fmtW 1 2 9).length ≤ 17592186044415) <|
(eFind_M (fmtW 1 2 9) ([]) 1 2 9 1 (ByteArray.mk #[97])).bind fun r30 =>
(eAdd_M (fmtW 1 2 9) ([]) 1 2 9 1 (ByteArray.mk #[97]) 1).bind fun r43 =>
(eFind_M (fmtW 1 2 9) r43.2 1 2 9 1 (ByteArray.mk #[97])).bind fun r50 =>
(eAdd_M (fmtW 1 2 9) r43.2 1 2 9 1 (ByteArray.mk #[97]) 1).bind fun r62 =>
(eAdd_M (fmtW 1 2 9) r62.2 1 2 9 1 (ByteArray.mk #[97, 47, 98]) 1).bind fun r69 =>
(eRemove_M (fmtW 1 2 9) r69.2 1 2 9 1 (ByteArray.mk #[97])).bind fun r75 =>
(eList_M (fmtW 1 2 9) r75.2 1 2 9 1).bind fun r81 =>
if r30.2.2.2 = 6 then (if r43.1 = 0 then (if r50.2.2.2 = 0 then (if r50.1 = (ByteArray.mk #[97]) ∧ r50.2.1 = 1 then ((ebegin_M (ByteArray.mk #[97])).bind fun r93 =>
if r50.2.2.1 = r93 then (if r62.1 = 9 then (if r69.1 = 13 then (if r75.1 = 0 then (if r81.2 = 0 then (some (decide ((r81.1.length : Int) = 0))) else (some false)) else (some false)) else (some false)) else (some false)) else (some false)) else (some false)) else (some false)) else (some false)) else (some false)

theorem works15_walk   {r : Bool} (B : Nat) (w : World) (hG : 1 < B) (hT : CellsAt (some ⟨1, 0, none⟩) tab8 w) (hm : works15_M = some r) : Spec Tryz.prog 8 #[] B w [] (fun v H' => v = .bool r ∧ H' = []) := by
 refine spec_Q Tryz.func8 rfl fun hs => ?_
 unfold works15_M at hm
 refine W.sr fun K1 hK1 => ?_
 refine zE 1 (hK1 _ _ ?_)
 refine W.sr fun K2 hK2 => ?_
 refine zR 1 ?_
 refine zN [(.int .i64 0), (.int .i64 0), (.int .i64 0)] 31 hs fun b5 w3 hs4 => ?_
 refine ops_store (off := 0) (cs := [(.int .i64 0), (.int .i64 0), (.int .i64 0)]) (vs := [(.int .i64 1), (.int .i64 2), (.int .i64 9)]) hs4 (by kernel_rfl) (by simp) rfl (fun w6 hs7 => ?_)
 have hs8 : St B w [] w6 [blk b5 (.cells [(.int .i64 1), (.int .i64 2), (.int .i64 9)].toArray 31 (0, 0))] := hs7
 refine zD (hK2 _ _ ?_)
 refine W.sr fun K9 hK9 => ?_
 refine ops_R (runs_loadAgg (ad := ⟨b5, 0, none⟩) (cs := [(.int .i64 1), (.int .i64 2), (.int .i64 9)]) (by kernel_rfl) (cells_sub (hs8.heapAt 0 rfl) rfl)) ?_
 refine ops_call0 hs8 (by kernel_rfl) (format_spec (gw := 1) (gi := 2) (gb := 9) B _) ?_
 rintro _ _ w12 ⟨a10, c11, rfl, rfl⟩ hs13
 have hs14 := St.ap1 hs13
 obtain ⟨h16, hm⟩ := need_some hm
 refine ops_call0 hs14 (by kernel_rfl) (new_spec (hc := (St.kcells kU64 hs14 0 rfl)) (hn := (St.capnil kU64 hs14 0 rfl)) (hsz := h16) B _) ?_
 rintro _ _ w17 ⟨b15, rfl, rfl⟩ hs18
 have hs19 := St.ap1 hs18
 refine zE 1 (hK9 _ _ ?_)
 refine W.seq fun K20 hK20 => ?_
 refine W.sr fun K21 hK21 => ?_
 refine zE 2 (hK21 _ _ ?_)
 refine W.cond_false false (by kernel_rfl) rfl ?_
 refine W.skip ?_
 refine hK20 _ _ ?_
 refine W.sr fun K22 hK22 => ?_
 refine zR 1 ?_
 refine zN [(.string ByteArray.empty), (.int .i64 0)] 33 hs19 fun b25 w23 hs24 => ?_
 refine ops_store (off := 0) (cs := [(.string ByteArray.empty), (.int .i64 0)]) (vs := [(.string (ByteArray.mk #[97])), (.int .i64 1)]) hs24 (by kernel_rfl) (by simp) rfl (fun w26 hs27 => ?_)
 have hs28 : St B w [] w26 [blk b25 (.cells [(.string (ByteArray.mk #[97])), (.int .i64 1)].toArray 33 (0, 0)), viewA (ptr b15) (fmtW 1 2 9) ([]), kU64.row a10 c11 (fmtW 1 2 9), blk b5 (.cells [(.int .i64 1), (.int .i64 2), (.int .i64 9)].toArray 31 (0, 0))] := hs27
 refine zD (hK22 _ _ ?_)
 refine W.sr fun K29 hK29 => ?_
 refine zR 1 ?_
 refine ops_R (runs_loadAgg (ad := ⟨b5, 0, none⟩) (cs := [(.int .i64 1), (.int .i64 2), (.int .i64 9)]) (by kernel_rfl) (cells_sub (hs28.heapAt 3 rfl) rfl)) ?_
 obtain ⟨r30, h31, hm⟩ := bind_some hm
 have hs32 := St.f1 hs28
 refine zC11 hs32 (eFind_walk (vb := b15) (gw := 1) (gi := 2) (gb := 9) (n_ := 1) (tx_ := (ByteArray.mk #[97])) (img := (fmtW 1 2 9)) (l := []) (hm := h31) B _) fun w33 hs35 => ?_
 refine zR 4 ?_
 refine zN [(.string ByteArray.empty), (.int .i64 0)] 33 hs35 fun b38 w36 hs37 => ?_
 refine ops_store (off := 0) (cs := [(.string ByteArray.empty), (.int .i64 0)]) (vs := [(.string r30.1), (.int .i64 r30.2.1)]) hs37 (by kernel_rfl) (by simp) rfl (fun w39 hs40 => ?_)
 have hs41 : St B w [] w39 [blk b38 (.cells [(.string r30.1), (.int .i64 r30.2.1)].toArray 33 (0, 0)), viewA (ptr b15) (fmtW 1 2 9) ([]), blk b25 (.cells [(.string (ByteArray.mk #[97])), (.int .i64 1)].toArray 33 (0, 0)), kU64.row a10 c11 (fmtW 1 2 9), blk b5 (.cells [(.int .i64 1), (.int .i64 2), (.int .i64 9)].toArray 31 (0, 0))] := hs40
 refine zE 2 (hK29 _ _ ?_)
 refine W.sr fun K42 hK42 => ?_
 refine zR 1 ?_
 refine ops_R (runs_loadAgg (ad := ⟨b5, 0, none⟩) (cs := [(.int .i64 1), (.int .i64 2), (.int .i64 9)]) (by kernel_rfl) (cells_sub (hs41.heapAt 4 rfl) rfl)) ?_
 refine ops_R (runs_loadAgg (ad := ⟨b25, 0, none⟩) (cs := [(.string (ByteArray.mk #[97])), (.int .i64 1)]) (by kernel_rfl) (cells_sub (hs41.heapAt 2 rfl) rfl)) ?_
 obtain ⟨r43, h44, hm⟩ := bind_some hm
 have hs45 := St.f1 hs41
 refine zC11 hs45 (eAdd_walk (vb := b15) (hG := hG) (hT := (hs41.oldCells hT)) (gw := 1) (gi := 2) (gb := 9) (n_ := 1) (xn_ := (ByteArray.mk #[97])) (xi_ := 1) (img := (fmtW 1 2 9)) (l := []) (hm := h44) B _) fun w46 hs48 => ?_
 refine zE 1 (hK42 _ _ ?_)
 refine W.sr fun K49 hK49 => ?_
 refine zR 1 ?_
 refine ops_R (runs_loadAgg (ad := ⟨b5, 0, none⟩) (cs := [(.int .i64 1), (.int .i64 2), (.int .i64 9)]) (by kernel_rfl) (cells_sub (hs48.heapAt 4 rfl) rfl)) ?_
 obtain ⟨r50, h51, hm⟩ := bind_some hm
 refine zC11 hs48 (eFind_walk (vb := b15) (gw := 1) (gi := 2) (gb := 9) (n_ := 1) (tx_ := (ByteArray.mk #[97])) (img := (fmtW 1 2 9)) (l := r43.2) (hm := h51) B _) fun w52 hs54 => ?_
 refine zR 4 ?_
 refine zN [(.string ByteArray.empty), (.int .i64 0)] 33 hs54 fun b57 w55 hs56 => ?_
 refine ops_store (off := 0) (cs := [(.string ByteArray.empty), (.int .i64 0)]) (vs := [(.string r50.1), (.int .i64 r50.2.1)]) hs56 (by kernel_rfl) (by simp) rfl (fun w58 hs59 => ?_)
 have hs60 : St B w [] w58 [blk b57 (.cells [(.string r50.1), (.int .i64 r50.2.1)].toArray 33 (0, 0)), viewA (ptr b15) (fmtW 1 2 9) r43.2, blk b38 (.cells [(.string r30.1), (.int .i64 r30.2.1)].toArray 33 (0, 0)), blk b25 (.cells [(.string (ByteArray.mk #[97])), (.int .i64 1)].toArray 33 (0, 0)), kU64.row a10 c11 (fmtW 1 2 9), blk b5 (.cells [(.int .i64 1), (.int .i64 2), (.int .i64 9)].toArray 31 (0, 0))] := hs59
 refine zE 2 (hK49 _ _ ?_)
 refine W.sr fun K61 hK61 => ?_
 refine zR 1 ?_
 refine ops_R (runs_loadAgg (ad := ⟨b5, 0, none⟩) (cs := [(.int .i64 1), (.int .i64 2), (.int .i64 9)]) (by kernel_rfl) (cells_sub (hs60.heapAt 5 rfl) rfl)) ?_
 refine ops_R (runs_loadAgg (ad := ⟨b25, 0, none⟩) (cs := [(.string (ByteArray.mk #[97])), (.int .i64 1)]) (by kernel_rfl) (cells_sub (hs60.heapAt 3 rfl) rfl)) ?_
 obtain ⟨r62, h63, hm⟩ := bind_some hm
 have hs64 := St.f1 hs60
 refine zC11 hs64 (eAdd_walk (vb := b15) (hG := hG) (hT := (hs60.oldCells hT)) (gw := 1) (gi := 2) (gb := 9) (n_ := 1) (xn_ := (ByteArray.mk #[97])) (xi_ := 1) (img := (fmtW 1 2 9)) (l := r43.2) (hm := h63) B _) fun w65 hs67 => ?_
 refine zE 1 (hK61 _ _ ?_)
 refine W.sr fun K68 hK68 => ?_
 refine zR 1 ?_
 refine ops_R (runs_loadAgg (ad := ⟨b5, 0, none⟩) (cs := [(.int .i64 1), (.int .i64 2), (.int .i64 9)]) (by kernel_rfl) (cells_sub (hs67.heapAt 5 rfl) rfl)) ?_
 refine zR 1 ?_
 obtain ⟨r69, h70, hm⟩ := bind_some hm
 refine zC11 hs67 (eAdd_walk (vb := b15) (hG := hG) (hT := (hs67.oldCells hT)) (gw := 1) (gi := 2) (gb := 9) (n_ := 1) (xn_ := (ByteArray.mk #[97, 47, 98])) (xi_ := 1) (img := (fmtW 1 2 9)) (l := r62.2) (hm := h70) B _) fun w71 hs73 => ?_
 refine zE 1 (hK68 _ _ ?_)
 refine W.sr fun K74 hK74 => ?_
 refine zR 1 ?_
 refine ops_R (runs_loadAgg (ad := ⟨b5, 0, none⟩) (cs := [(.int .i64 1), (.int .i64 2), (.int .i64 9)]) (by kernel_rfl) (cells_sub (hs73.heapAt 5 rfl) rfl)) ?_
 obtain ⟨r75, h76, hm⟩ := bind_some hm
 refine zC11 hs73 (eRemove_walk (vb := b15) (gw := 1) (gi := 2) (gb := 9) (n_ := 1) (tx_ := (ByteArray.mk #[97])) (img := (fmtW 1 2 9)) (l := r69.2) (hm := h76) B _) fun w77 hs79 => ?_
 refine zE 1 (hK74 _ _ ?_)
 refine W.sr fun K80 hK80 => ?_
 refine zR 1 ?_
 refine ops_R (runs_loadAgg (ad := ⟨b5, 0, none⟩) (cs := [(.int .i64 1), (.int .i64 2), (.int .i64 9)]) (by kernel_rfl) (cells_sub (hs79.heapAt 5 rfl) rfl)) ?_
 obtain ⟨r81, h82, hm⟩ := bind_some hm
 refine ops_call1 hs79 (by kernel_rfl) (eList_walk (vb := b15) (gw := 1) (gi := 2) (gb := 9) (n_ := 1) (img := (fmtW 1 2 9)) (l := r75.2) (hm := h82) B _) ?_
 rintro _ _ w85 ⟨a83, c84, rfl, rfl⟩ hs86
 have hs87 := St.ap2 hs86
 refine zE 5 (hK80 _ _ ?_)
 refine W.sr fun K88 hK88 => ?_
 refine zR 3 ?_
 rcases Bool.eq_false_or_eq_true (decide (r30.2.2.2 = 6)) with h89 | h89
 ·
  obtain ⟨h89p, hm⟩ := iY hm h89
  refine zS 60 h89 ?_
  refine zS 59 h89 ?_
  refine zR 4 ?_
  rcases Bool.eq_false_or_eq_true (decide (r43.1 = 0)) with h90 | h90
  ·
   obtain ⟨h90p, hm⟩ := iY hm h90
   refine zS 64 h90 ?_
   refine zS 62 h90 ?_
   refine zS 63 h90 ?_
   refine zR 4 ?_
   rcases Bool.eq_false_or_eq_true (decide (r50.2.2.2 = 0)) with h91 | h91
   ·
    obtain ⟨h91p, hm⟩ := iY hm h91
    refine zS 68 h91 ?_
    refine zS 66 h91 ?_
    refine zS 67 h91 ?_
    refine ops_R (runs_loadAgg (ad := ⟨b57, 0, none⟩) (cs := [(.string r50.1), (.int .i64 r50.2.1)]) (by kernel_rfl) (cells_sub (hs87.heapAt 2 rfl) rfl)) ?_
    refine ops_R (runs_loadAgg (ad := ⟨b25, 0, none⟩) (cs := [(.string (ByteArray.mk #[97])), (.int .i64 1)]) (by kernel_rfl) (cells_sub (hs87.heapAt 4 rfl) rfl)) ?_
    refine ops_R (v := (.bool ((r50.1 == (ByteArray.mk #[97])) && ((decide (r50.2.1 = 1)) && true)))) (runs_eq (b := ((r50.1 == (ByteArray.mk #[97])) && ((decide (r50.2.1 = 1)) && true))) (by kernel_rfl)) ?_
    refine zR 2 ?_
    rcases Bool.eq_false_or_eq_true ((r50.1 == (ByteArray.mk #[97])) && ((decide (r50.2.1 = 1)) && true)) with h92 | h92
    ·
     have h92p : r50.1 = (ByteArray.mk #[97]) ∧ r50.2.1 = 1 := by simpa using h92
     replace hm := ite_yes hm h92p
     refine zS 73 h92 ?_
     refine zS 71 h92 ?_
     refine zS 72 h92 ?_
     refine zR 1 ?_
     obtain ⟨r93, h94, hm⟩ := bind_some hm
     refine zC00 hs87 (ebegin_walk (tx_ := (ByteArray.mk #[97])) (hm := h94) B _) fun w95 hs97 => ?_
     refine zR 3 ?_
     rcases Bool.eq_false_or_eq_true (decide (r50.2.2.1 = r93)) with h98 | h98
     ·
      obtain ⟨h98p, hm⟩ := iY hm h98
      refine zS 78 h98 ?_
      refine zS 76 h98 ?_
      refine zS 77 h98 ?_
      refine zR 4 ?_
      rcases Bool.eq_false_or_eq_true (decide (r62.1 = 9)) with h99 | h99
      ·
       obtain ⟨h99p, hm⟩ := iY hm h99
       refine zS 82 h99 ?_
       refine zS 80 h99 ?_
       refine zS 81 h99 ?_
       refine zR 4 ?_
       rcases Bool.eq_false_or_eq_true (decide (r69.1 = 13)) with h100 | h100
       ·
        obtain ⟨h100p, hm⟩ := iY hm h100
        refine zS 86 h100 ?_
        refine zS 84 h100 ?_
        refine zS 85 h100 ?_
        refine zR 4 ?_
        rcases Bool.eq_false_or_eq_true (decide (r75.1 = 0)) with h101 | h101
        ·
         obtain ⟨h101p, hm⟩ := iY hm h101
         refine zS 90 h101 ?_
         refine zS 88 h101 ?_
         refine zS 89 h101 ?_
         refine zR 4 ?_
         rcases Bool.eq_false_or_eq_true (decide (r81.2 = 0)) with h102 | h102
         ·
          obtain ⟨h102p, hm⟩ := iY hm h102
          refine zS 94 h102 ?_
          refine zS 92 h102 ?_
          refine zS 93 h102 ?_
          refine zE 5 (hK88 _ _ ?_)
          refine W.ret ?_
          obtain rfl := some_inj hm
          have hs103 := St.tk0 hs97
          refine ret_of (.bool (decide ((r81.1.length : Int) = 0))) (by kernel_rfl) ⟨_, ⟨rfl, rfl⟩, hs103⟩
         ·
          obtain ⟨h102p, hm⟩ := iN hm h102
          refine zS 94 h102 ?_
          refine zS 92 h102 ?_
          refine zS 93 h102 ?_
          refine zE 5 (hK88 _ _ ?_)
          refine W.ret ?_
          obtain rfl := some_inj hm
          have hs104 := St.tk0 hs97
          refine ret_of (.bool false) (by kernel_rfl) ⟨_, ⟨rfl, rfl⟩, hs104⟩
        ·
         obtain ⟨h101p, hm⟩ := iN hm h101
         refine zS 90 h101 ?_
         refine zS 88 h101 ?_
         refine zS 89 h101 ?_
         refine zE 9 (hK88 _ _ ?_)
         refine W.ret ?_
         obtain rfl := some_inj hm
         have hs105 := St.tk0 hs97
         refine ret_of (.bool false) (by kernel_rfl) ⟨_, ⟨rfl, rfl⟩, hs105⟩
       ·
        obtain ⟨h100p, hm⟩ := iN hm h100
        refine zS 86 h100 ?_
        refine zS 84 h100 ?_
        refine zS 85 h100 ?_
        refine zE 13 (hK88 _ _ ?_)
        refine W.ret ?_
        obtain rfl := some_inj hm
        have hs106 := St.tk0 hs97
        refine ret_of (.bool false) (by kernel_rfl) ⟨_, ⟨rfl, rfl⟩, hs106⟩
      ·
       obtain ⟨h99p, hm⟩ := iN hm h99
       refine zS 82 h99 ?_
       refine zS 80 h99 ?_
       refine zS 81 h99 ?_
       refine zE 17 (hK88 _ _ ?_)
       refine W.ret ?_
       obtain rfl := some_inj hm
       have hs107 := St.tk0 hs97
       refine ret_of (.bool false) (by kernel_rfl) ⟨_, ⟨rfl, rfl⟩, hs107⟩
     ·
      obtain ⟨h98p, hm⟩ := iN hm h98
      refine zS 78 h98 ?_
      refine zS 76 h98 ?_
      refine zS 77 h98 ?_
      refine zE 21 (hK88 _ _ ?_)
      refine W.ret ?_
      obtain rfl := some_inj hm
      have hs108 := St.tk0 hs97
      refine ret_of (.bool false) (by kernel_rfl) ⟨_, ⟨rfl, rfl⟩, hs108⟩
    ·
     have h92p : ¬ (r50.1 = (ByteArray.mk #[97]) ∧ r50.2.1 = 1) := by simpa using h92
     replace hm := ite_no hm h92p
     refine zS 73 h92 ?_
     refine zS 71 h92 ?_
     refine zS 72 h92 ?_
     refine zE 26 (hK88 _ _ ?_)
     refine W.ret ?_
     obtain rfl := some_inj hm
     have hs109 := St.tk0 hs87
     refine ret_of (.bool false) (by kernel_rfl) ⟨_, ⟨rfl, rfl⟩, hs109⟩
   ·
    obtain ⟨h91p, hm⟩ := iN hm h91
    refine zS 68 h91 ?_
    refine zS 66 h91 ?_
    refine zS 67 h91 ?_
    refine zE 31 (hK88 _ _ ?_)
    refine W.ret ?_
    obtain rfl := some_inj hm
    have hs110 := St.tk0 hs87
    refine ret_of (.bool false) (by kernel_rfl) ⟨_, ⟨rfl, rfl⟩, hs110⟩
  ·
   obtain ⟨h90p, hm⟩ := iN hm h90
   refine zS 64 h90 ?_
   refine zS 62 h90 ?_
   refine zS 63 h90 ?_
   refine zE 35 (hK88 _ _ ?_)
   refine W.ret ?_
   obtain rfl := some_inj hm
   have hs111 := St.tk0 hs87
   refine ret_of (.bool false) (by kernel_rfl) ⟨_, ⟨rfl, rfl⟩, hs111⟩
 ·
  obtain ⟨h89p, hm⟩ := iN hm h89
  refine zS 60 h89 ?_
  refine zS 59 h89 ?_
  refine zE 39 (hK88 _ _ ?_)
  refine W.ret ?_
  obtain rfl := some_inj hm
  have hs112 := St.tk0 hs87
  refine ret_of (.bool false) (by kernel_rfl) ⟨_, ⟨rfl, rfl⟩, hs112⟩

end Go.Proofs.YtmmclabkkigiaaaGreatDoor

namespace Go.Proofs.YtmmclabkkigiaaaGreatDoor
open Go Go.RowKit
set_option maxRecDepth 100000 in
set_option maxHeartbeats 4000000 in
theorem works15_eq : works15_M = some true := by decide +kernel
end Go.Proofs.YtmmclabkkigiaaaGreatDoor

namespace Go.Proofs.YtmmclabkkigiaaaGreatDoor
open Go Go.RowKit
set_option linter.unusedVariables false
set_option linter.unusedSimpArgs false

theorem Ok.got15 {α ρ : Type} {R : ρ → Prop} {x : Option α} {y : α} {f : α → Option ρ} (h : x = Option.some y) (hf : Ok R (f y)) : Ok R (x.bind f) := by
  rw [h]; exact hf
theorem rounds_ok {σ ρ : Type} {R : ρ → Prop} {body : Nat → (σ → Option ρ) → σ → Option ρ} {done : σ → Option ρ} (I : Nat → σ → Prop) (n : Nat)
    (step : ∀ (k : Nat) (c : σ → Option ρ) (s : σ), k < n → I k s → (∀ s', I (k + 1) s' → Ok R (c s')) → Ok R (body k c s)) (fin : ∀ s, I n s → Ok R (done s)) :
    ∀ (t k : Nat) (s : σ), k + t = n → I k s → Ok R (rounds body done t k s)
  | 0, k, s, h, hI => by
    obtain rfl : k = n := by omega
    exact fin s hI
  | t + 1, k, s, h, hI => step k _ s (by omega) hI fun s' hI' => rounds_ok I n step fin t (k + 1) s' (by omega) hI'
theorem toList_iff {a b : ByteArray} : (a.toList == b.toList) = true ↔ a = b := by
  rw [ByteArray.toList_eq, ByteArray.toList_eq, beq_iff_eq]
  constructor
  · intro h
    cases a; cases b
    congr 1
    exact Array.toList_inj.1 h
  · rintro rfl; rfl
def mayB (s : ByteArray) : Bool := decide (1 ≤ s.size ∧ s.size ≤ 40 ∧ badB s = false ∧ s ≠ ByteArray.mk #[46] ∧ s ≠ ByteArray.mk #[46, 46])
theorem emay_eq (s : ByteArray) : emay_M s = some (mayB s) := by
  unfold emay_M mayB
  by_cases h1 : (s.size : Int) ≥ 1
  · rw [if_pos h1]
    by_cases h2 : (s.size : Int) ≤ 40
    · rw [if_pos h2]
      refine need_of (by omega) ?_
      cases hb : badB s with
      | true => rw [if_pos rfl, decide_eq_false (by simp)]
      | false =>
        rw [if_neg (by decide)]
        by_cases h3 : s = ByteArray.mk #[46]
        · rw [if_pos (toList_iff.2 h3), decide_eq_false fun q => q.2.2.2.1 h3]
        · rw [if_neg fun q => h3 (toList_iff.1 q)]
          congr 1
          by_cases h4 : s = ByteArray.mk #[46, 46]
          · rw [decide_eq_false fun q => q.2.2.2.2 h4, toList_iff.2 h4]
            rfl
          · rw [decide_eq_true ⟨by omega, by omega, rfl, h3, h4⟩]
            have : (s.toList == (ByteArray.mk #[46, 46]).toList) = false := by
              cases hq : (s.toList == (ByteArray.mk #[46, 46]).toList) with
              | false => rfl
              | true => exact absurd (toList_iff.1 hq) h4
            rw [this]
            rfl
    · rw [if_neg h2, decide_eq_false fun q => h2 (by omega)]
  · rw [if_neg h1, decide_eq_false fun q => h1 (by omega)]
theorem mayB_iff {s : ByteArray} : mayB s = true ↔ 1 ≤ s.size ∧ s.size ≤ 40 ∧ badB s = false ∧ s ≠ ByteArray.mk #[46] ∧ s ≠ ByteArray.mk #[46, 46] := by
  unfold mayB
  exact decide_eq_true_iff
theorem num_range (s : ByteArray) (j : Nat) : 0 ≤ (strNums s).getD j 0 ∧ (strNums s).getD j 0 ≤ 255 := by
  unfold strNums
  simp only [List.getD, List.getElem?_map]
  cases s.data.toList[j]? with
  | none => simp
  | some b =>
    have := b.toNat_lt
    simp only [Option.map_some, Option.getD_some]
    omega
theorem opack_any (s : ByteArray) (hs : s.size ≤ 1000) : Ok (fun ws : List Int => ws.length = (s.size + 7) / 8) (opack_M s) := by
  unfold opack_M
  refine Ok.need (by omega) ?_
  refine rounds_ok (fun k (q : List Int) => q.length = k) ((s.size + 7) / 8) (fun k c q hk hq ih => ?_) (fun q hq => Ok.some hq) _ _ _ (by omega) rfl
  unfold opack_R27
  refine rounds_ok (fun _ _ => True) (partN s.size k) (fun k2 c2 p hk2 _ ih2 => ?_) (fun p _ => ?_) _ _ _ (by omega) trivial
  · unfold opack_R108
    refine Ok.name fun z hz => Ok.need ?_ (ih2 _ trivial)
    have e : ((strNums s).drop (8 * k)).getD (partN s.size k - 1 - k2) 0 = (strNums s).getD (8 * k + (partN s.size k - 1 - k2)) 0 := by
      simp only [List.getD, List.getElem?_drop]
    have := num_range s (8 * k + (partN s.size k - 1 - k2))
    omega
  · unfold opack_D108 opack_J3
    exact Ok.need (by omega) (ih _ (by rw [List.length_append, hq]; rfl))
theorem sumof_any (ws : List Int) (hs : ws.length ≤ 1000) : Ok (fun r => 0 ≤ r ∧ r ≤ 18446744073709551615) (sumof_M ws) := by
  unfold sumof_M
  refine Ok.need (by omega) ?_
  refine rounds_ok (fun _ (r : Int) => 0 ≤ r ∧ r ≤ 18446744073709551615) ws.length (fun k c r hk hr ih => ?_) (fun r hr => ?_) _ _ _ (by omega) (by omega)
  · unfold sumof_R29 sumadd_M
    exact ih _ (by omega)
  · unfold sumof_D29 sumnow_M
    exact Ok.some hr
theorem ebegin_any (s : ByteArray) : (mayB s = false ∧ ebegin_M s = some 0) ∨ (mayB s = true ∧ ∃ ws r, opack_M s = some ws ∧ sumof_M ws = some r ∧ (0 ≤ r ∧ r ≤ 18446744073709551615) ∧ ebegin_M s = some (r % 12)) := by
  cases hm : mayB s with
  | false =>
    refine .inl ⟨rfl, ?_⟩
    unfold ebegin_M
    refine bind_of (emay_eq s) ?_
    rw [hm]
    rfl
  | true =>
    refine .inr ⟨rfl, ?_⟩
    have h1 := mayB_iff.1 hm
    obtain ⟨ws, e1, e2⟩ := opack_any s (by omega)
    obtain ⟨r, e3, e4⟩ := sumof_any ws (by omega)
    have et : r.tmod 12 = r % 12 := Int.tmod_eq_emod_of_nonneg e4.1
    refine ⟨ws, r, e1, e3, e4, ?_⟩
    unfold ebegin_M
    refine bind_of (emay_eq s) ?_
    rw [hm, if_pos rfl]
    refine bind_of e1 (bind_of e3 ?_)
    rw [et]
    exact need_of (by omega) rfl
theorem works15_stop : Ok (· = true) ((works15_M).bind fun r => some r) := by
  rw [works15_eq]
  exact Ok.some rfl
end Go.Proofs.YtmmclabkkigiaaaGreatDoor

namespace Go.Proofs.YtmmclabkkigiaaaGreatDoor
open Go Go.RowKit
set_option linter.unusedVariables false
set_option linter.unusedSimpArgs false

def bytesF (ws : List Int) (n : Nat) : List Int := (List.range n).map fun (j : Nat) => shrK .u64 (ws.getD (j / 8) 0) (8 * ((j % 8 : Nat) : Int)) % 256
theorem bytesF_succ (ws : List Int) (n : Nat) : bytesF ws (n + 1) = bytesF ws n ++ [shrK .u64 (ws.getD (n / 8) 0) (8 * ((n % 8 : Nat) : Int)) % 256] := by
  unfold bytesF
  rw [List.range_succ, List.map_append]
  rfl
theorem bytesF_len (ws : List Int) (n : Nat) : (bytesF ws n).length = n := by unfold bytesF; simp
theorem quo8 {p : Int} (h : 0 ≤ p) : p.tdiv 8 = p / 8 := Int.tdiv_eq_ediv_of_nonneg h
theorem rem8 {p : Int} (h : 0 ≤ p) : p.tmod 8 = p % 8 := Int.tmod_eq_emod_of_nonneg h
theorem unpack_eq {ws : List Int} {n : Int} (h0 : 0 ≤ n) (hn : n ≤ 8 * (ws.length : Int)) (hl : ws.length ≤ 1000) : unpack_M ws n = some (strOfNums (bytesF ws n.toNat), 0) := by
  unfold unpack_M
  rw [if_neg (by omega), need, if_pos (by omega), if_neg (by omega), need, if_pos (by omega)]
  refine iter_run (fun s => 0 ≤ s.2 ∧ s.2 ≤ n ∧ s.1.length = n.toNat ∧ s.1.take s.2.toNat = bytesF ws s.2.toNat) (fun s => (n - s.2).toNat) ?_ _ _ ⟨by simp, by simp; omega, by simp, rfl⟩ (fuel_lt (by simp only; omega))
  rintro k ⟨q, p⟩ ⟨h1, h2, h3, h4⟩ ih
  simp only at h1 h2 h3 h4 ih
  unfold unpack_B0
  simp only
  by_cases h : p < n
  · rw [if_pos (by omega), quo8 h1, rem8 h1]
    refine need_of (by omega) (need_of (by omega) (need_of (by omega) (need_of (by omega) (need_of (by omega) (need_of (by omega) (need_of (by omega) (ih _ ⟨by simp only; omega, by simp only; omega, by simp only [List.length_set]; exact h3, ?_⟩ (by simp only; omega))))))))
    simp only
    rw [show (p + 1).toNat = p.toNat + 1 by omega, bytesF_succ, ← h4, show (p / 8).toNat = p.toNat / 8 by omega, show ((p.toNat % 8 : Nat) : Int) = p % 8 by omega]
    have hlt : p.toNat < q.length := by omega
    rw [List.take_add_one, List.take_set_of_le (Nat.le_refl _)]
    simp [hlt]
  · rw [if_neg (by omega)]
    refine need_of (by omega) ?_
    have e : p = n := by omega
    subst e
    rw [List.take_of_length_le (by omega)] at h4
    rw [h4]

def valB : List Int → Int
  | [] => 0
  | b :: bs => b + 256 * valB bs
def Byt (xs : List Int) : Prop := ∀ x ∈ xs, 0 ≤ x ∧ x < 256
theorem Byt.nil : Byt [] := by intro x hx; simp at hx
theorem Byt.cons {x : Int} {xs : List Int} (h : Byt (x :: xs)) : (0 ≤ x ∧ x < 256) ∧ Byt xs := ⟨h x (by simp), fun y hy => h y (by simp [hy])⟩
theorem Byt.drop {xs : List Int} (h : Byt xs) (n : Nat) : Byt (xs.drop n) := fun x hx => h x (List.mem_of_mem_drop hx)
theorem Byt.take {xs : List Int} (h : Byt xs) (n : Nat) : Byt (xs.take n) := fun x hx => h x (List.mem_of_mem_take hx)
theorem byt_str (s : ByteArray) : Byt (strNums s) := by
  intro x hx
  unfold strNums at hx
  obtain ⟨b, _, rfl⟩ := List.mem_map.1 hx
  have := b.toNat_lt
  omega
theorem Byt.getD {xs : List Int} (h : Byt xs) (k : Nat) : 0 ≤ xs.getD k 0 ∧ xs.getD k 0 < 256 := by
  rw [List.getD_eq_getElem?_getD]
  rcases Nat.lt_or_ge k xs.length with hk | hk
  · rw [List.getElem?_eq_getElem hk]; exact h _ (List.getElem_mem hk)
  · rw [List.getElem?_eq_none hk]; simp
theorem valB_range : ∀ {xs : List Int}, Byt xs → 0 ≤ valB xs ∧ valB xs < 256 ^ xs.length
  | [], _ => by simp [valB]
  | x :: xs, h => by
    have h1 := h.cons.1
    have h2 := valB_range h.cons.2
    simp only [valB, List.length_cons, Int.pow_succ]
    omega
theorem pow256 {n : Nat} (h : n ≤ 8) : (256 : Int) ^ n ≤ 18446744073709551616 := by
  have : n = 0 ∨ n = 1 ∨ n = 2 ∨ n = 3 ∨ n = 4 ∨ n = 5 ∨ n = 6 ∨ n = 7 ∨ n = 8 := by omega
  rcases this with rfl | rfl | rfl | rfl | rfl | rfl | rfl | rfl | rfl <;> decide
theorem valB_u64 {xs : List Int} (h : Byt xs) (hl : xs.length ≤ 8) : U64 (valB xs) := by
  have := valB_range h
  have := pow256 hl
  unfold U64; omega
theorem valB_byte : ∀ {xs : List Int}, Byt xs → ∀ j : Nat, valB xs / 256 ^ j % 256 = xs.getD j 0
  | [], _, j => by simp [valB]
  | x :: xs, h, 0 => by
    have h1 := h.cons.1
    simp only [valB, Int.pow_zero, Int.ediv_one, List.getD_cons_zero]
    omega
  | x :: xs, h, j + 1 => by
    have h1 := h.cons.1
    have ih := valB_byte h.cons.2 j
    have e : (x + 256 * valB xs) / 256 = valB xs := by omega
    rw [valB, List.getD_cons_succ, ← ih, Int.pow_succ, Int.mul_comm (256 ^ j) 256, ← Int.ediv_ediv_of_nonneg (by decide), e]
theorem pow8 {j : Nat} (h : j < 8) : (2 : Int) ^ (min (8 * (j : Int)).toNat 64) = 256 ^ j := by
  have : j = 0 ∨ j = 1 ∨ j = 2 ∨ j = 3 ∨ j = 4 ∨ j = 5 ∨ j = 6 ∨ j = 7 := by omega
  rcases this with rfl | rfl | rfl | rfl | rfl | rfl | rfl | rfl <;> decide
theorem shr_bytes {v : Int} {j : Nat} (hv : 0 ≤ v) (h : j < 8) : shrK .u64 v (8 * (j : Int)) = v / 256 ^ j := by
  unfold shrK
  show v.fdiv (2 ^ (min (8 * (j : Int)).toNat 64)) = _
  rw [pow8 h, Int.fdiv_eq_ediv_of_nonneg]
  exact Int.pow_nonneg (by decide)
def packF (s : ByteArray) : List Int := (List.range ((s.size + 7) / 8)).map fun (q : Nat) => valB (((strNums s).drop (8 * q)).take 8)
theorem packF_len (s : ByteArray) : (packF s).length = (s.size + 7) / 8 := by unfold packF; simp
theorem packF_get (s : ByteArray) {q : Nat} (h : q < (s.size + 7) / 8) : (packF s).getD q 0 = valB (((strNums s).drop (8 * q)).take 8) := by
  unfold packF
  simp [List.getD, h]
theorem packF_u64 (s : ByteArray) : ∀ x ∈ packF s, U64 x := by
  intro x hx
  unfold packF at hx
  obtain ⟨q, _, rfl⟩ := List.mem_map.1 hx
  exact valB_u64 (((byt_str s).drop _).take _) (by simp; omega)
theorem getD_part (xs : List Int) (q j : Nat) (h : j < 8) : ((xs.drop (8 * q)).take 8).getD j 0 = xs.getD (8 * q + j) 0 := by
  simp only [List.getD_eq_getElem?_getD, List.getElem?_take, if_pos h, List.getElem?_drop]
theorem bytesF_get (ws : List Int) {n j : Nat} (h : j < n) : (bytesF ws n).getD j 0 = shrK .u64 (ws.getD (j / 8) 0) (8 * ((j % 8 : Nat) : Int)) % 256 := by
  unfold bytesF
  simp [List.getD, h]
theorem bytesF_pack {s : ByteArray} {ws : List Int} (h : ∀ q, q < (s.size + 7) / 8 → ws.getD q 0 = (packF s).getD q 0) : bytesF ws s.size = strNums s := by
  refine eq_of_getD 0 (by rw [bytesF_len, strNums_len]) fun j h1 => ?_
  rw [bytesF_len] at h1
  have hb : Byt (((strNums s).drop (8 * (j / 8))).take 8) := ((byt_str s).drop _).take _
  rw [bytesF_get ws h1, h _ (by omega), packF_get s (by omega), shr_bytes (valB_range hb).1 (by omega), valB_byte hb, getD_part _ _ _ (by omega), show 8 * (j / 8) + j % 8 = j by omega]
theorem str_nums (s : ByteArray) : strOfNums (strNums s) = s := by
  unfold strOfNums strNums
  cases s with | mk d =>
  congr 1
  apply Array.ext'
  simp [List.map_map, Function.comp_def]


variable {img : List Int} {l : List (Int × Int)}
theorem or_byte {n b : Int} (hn : 0 ≤ n ∧ n < 72057594037927936) (hb : 0 ≤ b ∧ b < 256) : bits .or .u64 (shlK .u64 n 8) b = b + 256 * n := by
  have e : shlK .u64 n 8 = 256 * n := by
    unfold shlK
    show IntKind.u64.wrap (n * 2 ^ (min (8 : Int).toNat 64)) = _
    rw [show (2 : Int) ^ (min (8 : Int).toNat 64) = 256 by decide, wrap_u64 (by omega) (by omega)]
    omega
  rw [e]
  have hx : U64 (256 * n) := by unfold U64; omega
  have hy : U64 b := by unfold U64; omega
  refine bitI_ext (bits_u64 hx hy) (by unfold U64; omega) fun j _ => ?_
  rw [bitI_or hx hy]
  unfold bitI
  obtain ⟨a, rfl⟩ := Int.eq_ofNat_of_zero_le hn.1
  obtain ⟨c, rfl⟩ := Int.eq_ofNat_of_zero_le hb.1
  rw [show (256 * (a : Int)).toNat = a <<< 8 by rw [Nat.shiftLeft_eq]; omega, show ((c : Int) + 256 * (a : Int)).toNat = a <<< 8 + c by rw [Nat.shiftLeft_eq]; omega,
    Nat.shiftLeft_add_eq_or_of_lt (show c < 2 ^ 8 by omega), Nat.testBit_or, Int.toNat_natCast]
theorem opack_eq {s : ByteArray} (hs : s.size ≤ 1000000) : opack_M s = some (packF s) := by
  unfold opack_M
  refine need_of hs ?_
  have hlen := strNums_len s
  have inner : ∀ (k : Nat) (c : List Int → Option (List Int)) (q : List Int), 8 * k < s.size → ∀ (m j : Nat), j + m = partN s.size k →
      rounds (fun k_ c_ s_ => opack_R108 s k k_ c_ s_) (fun s_ => opack_D108 c q s_) m j (valB ((((strNums s).drop (8 * k)).take (partN s.size k)).drop (partN s.size k - j))) =
      opack_D108 c q (valB (((strNums s).drop (8 * k)).take (partN s.size k))) := by
    intro k c q hk m
    have hp := part_pos hk
    have hb : Byt (((strNums s).drop (8 * k)).take (partN s.size k)) := ((byt_str s).drop _).take _
    have hl : (((strNums s).drop (8 * k)).take (partN s.size k)).length = partN s.size k := by simp only [List.length_take, List.length_drop, hlen]; omega
    induction m with
    | zero =>
      intro j hj
      rw [show partN s.size k - j = 0 by omega, List.drop_zero]
      rfl
    | succ m ih =>
      intro j hj
      show opack_R108 s k j _ _ = _
      unfold opack_R108
      simp only [Option.bind]
      have e1 : ((strNums s).drop (8 * k)).getD (partN s.size k - 1 - j) 0 = (((strNums s).drop (8 * k)).take (partN s.size k)).getD (partN s.size k - 1 - j) 0 := by
        simp only [List.getD_eq_getElem?_getD, List.getElem?_take]
        rw [if_pos (by omega)]
      rw [e1]
      generalize hX : ((strNums s).drop (8 * k)).take (partN s.size k) = X at *
      have hg := hb.getD (partN s.size k - 1 - j)
      refine need_of (by omega) ?_
      have hr := valB_range (hb.drop (partN s.size k - j))
      have hlt : (X.drop (partN s.size k - j)).length = j := by rw [List.length_drop]; omega
      rw [hlt] at hr
      have h7 : (256 : Int) ^ j ≤ 72057594037927936 := by
        have : j = 0 ∨ j = 1 ∨ j = 2 ∨ j = 3 ∨ j = 4 ∨ j = 5 ∨ j = 6 ∨ j = 7 := by omega
        rcases this with rfl | rfl | rfl | rfl | rfl | rfl | rfl | rfl <;> decide
      rw [or_byte (by omega) hg]
      have e2 : X.drop (partN s.size k - (j + 1)) = X.getD (partN s.size k - 1 - j) 0 :: X.drop (partN s.size k - j) := by
        have hlt2 : partN s.size k - (j + 1) < X.length := by omega
        rw [List.drop_eq_getElem_cons hlt2, show partN s.size k - (j + 1) + 1 = partN s.size k - j by omega, show partN s.size k - 1 - j = partN s.size k - (j + 1) by omega]
        simp [List.getD, hlt2]
      have := ih (j + 1) (by omega)
      rw [e2, valB] at this
      exact this
  have outer : ∀ (m k : Nat), k + m = (s.size + 7) / 8 → rounds (fun k_ c_ s_ => opack_R27 s k_ c_ s_) (fun s_ => opack_D27 s_) m k ((packF s).take k) = some (packF s) := by
    intro m
    have hpl := packF_len s
    induction m with
    | zero =>
      intro k hk
      rw [List.take_of_length_le (by omega)]
      rfl
    | succ m ih =>
      intro k hk
      have h8 : 8 * k < s.size := by omega
      have := inner k (rounds (fun k_ c_ s_ => opack_R27 s k_ c_ s_) (fun s_ => opack_D27 s_) m (k + 1)) ((packF s).take k) h8 (partN s.size k) 0 (by omega)
      rw [Nat.sub_zero, List.drop_of_length_le (by simp only [List.length_take]; omega)] at this
      refine Eq.trans (show _ = opack_D108 (rounds (fun k_ c_ s_ => opack_R27 s k_ c_ s_) (fun s_ => opack_D27 s_) m (k + 1)) ((packF s).take k) (valB (((strNums s).drop (8 * k)).take (partN s.size k))) from this) ?_
      unfold opack_D108 opack_J3
      refine need_of (by simp only [List.length_take]; omega) ?_
      have e : (packF s).take k ++ [valB (((strNums s).drop (8 * k)).take (partN s.size k))] = (packF s).take (k + 1) := by
        rw [take_snoc 0 (by omega), packF_get s (by omega)]
        congr 3
        unfold partN
        split
        · rw [List.take_of_length_le (by simp only [List.length_drop]; omega), List.take_of_length_le (by simp only [List.length_drop]; omega)]
        · rfl
      rw [e]
      exact ih (k + 1) (by omega)
  exact outer _ 0 (by omega)


end Go.Proofs.YtmmclabkkigiaaaGreatDoor

namespace Go.Proofs.YtmmclabkkigiaaaGreatDoor
open Go Go.RowKit
set_option linter.unusedVariables false

section
variable {img : List Int} {l : List (Int × Int)} {at_ many : Int}

def VI (img : List Int) (l : List (Int × Int)) : Prop := VR img l ∧ l.length ≤ 96
theorem VI.nil (h : ∀ x ∈ img, U64 x) : VI img [] := ⟨VR.nil h, by simp⟩
theorem VI.vput {a x : Int} (h : VI img l) (hx : U64 x) : VI img (vput img l a x).2 := by
  unfold Go.Proofs.YtmmclabkkigiaaaGreatDoor.vput
  split
  · rename_i ha
    cases hl : vlook l a with
    | some y =>
      simp only
      exact ⟨h.1.put ha hx, by rw [vset_length_some (by rw [hl]; rfl)]; exact h.2⟩
    | none =>
      simp only
      split
      · exact h
      · refine ⟨h.1.put ha hx, ?_⟩
        rw [vset_none hl]
        simp
        omega
  · exact h
theorem VI.mset {i_ : Int} {is_ : Bool} (h : VI img l) : VI img (msetF img l at_ many i_ is_).2 := by
  unfold msetF
  split
  · exact h.vput (setb_u64 (h.1 _) (by omega))
  · exact h
def clearF (img : List Int) : List (Int × Int) → List Int → Int × List (Int × Int)
  | l, [] => (0, l)
  | l, n :: ns => if (vput img l n 0).1 = 0 then clearF img (vput img l n 0).2 ns else vput img l n 0
theorem VI.clear : ∀ {ns : List Int} {l : List (Int × Int)}, VI img l → VI img (clearF img l ns).2
  | [], _, h => h
  | n :: ns, l, h => by
    unfold clearF
    split
    · exact VI.clear (h.vput u64_zero)
    · exact h.vput u64_zero
theorem aclear_ok (ns : List Int) (hl : ns.length ≤ 1000000) : aclear_M img l ns = some (clearF img l ns) := by
  unfold aclear_M
  refine iter_run (fun s => 0 ≤ s.2 ∧ s.2 ≤ (ns.length : Int) ∧ clearF img s.1 (ns.drop s.2.toNat) = clearF img l ns) (fun s => ((ns.length : Int) - s.2).toNat) ?_ _ _ ⟨by simp, by simp, rfl⟩ (fuel_lt (by simp only; omega))
  rintro k ⟨m, p⟩ ⟨h1, h2, h3⟩ ih
  simp only at h1 h2 h3 ih
  unfold aclear_B0
  simp only
  by_cases h : p < (ns.length : Int)
  · have hlt : p.toNat < ns.length := by omega
    have e : ns.drop p.toNat = ns.getD p.toNat 0 :: ns.drop (p + 1).toNat := by
      rw [List.drop_eq_getElem_cons hlt, show (p + 1).toNat = p.toNat + 1 by omega]
      simp [hlt]
    rw [e, clearF] at h3
    rw [if_pos h]
    refine need_of ⟨h1, h⟩ (bind_of rfl ?_)
    by_cases h0 : (vput img m (ns.getD p.toNat 0) 0).1 = 0
    · rw [if_pos h0] at h3 ⊢
      exact need_of (by omega) (ih _ ⟨by simp only; omega, by simp only; omega, h3⟩ (by simp only; omega))
    · rw [if_neg h0] at h3 ⊢
      rw [← h3]
  · rw [if_neg h, ← h3, List.drop_of_length_le (by omega)]
    rfl
def ownL (p : Int) : List Int := [p + 0, p + 1, p + 2, p + 3, p + 4, p + 5, p + 6, p + 7]

def takeBF (img : List Int) (l : List (Int × Int)) (gw gi gb at_ : Int) : Int × Int × List (Int × Int) :=
  if (lst (mbits img l at_) gb.toNat).2 = true then
    if (msetF img l at_ gb (lst (mbits img l at_) gb.toNat).1 true).1 = 0 then
      if (clearF img (msetF img l at_ gb (lst (mbits img l at_) gb.toNat).1 true).2 (ownL (placeOf 9 gw gi gb (lst (mbits img l at_) gb.toNat).1))).1 = 0 then
        ((lst (mbits img l at_) gb.toNat).1, 0, (clearF img (msetF img l at_ gb (lst (mbits img l at_) gb.toNat).1 true).2 (ownL (placeOf 9 gw gi gb (lst (mbits img l at_) gb.toNat).1))).2)
      else (0, clearF img (msetF img l at_ gb (lst (mbits img l at_) gb.toNat).1 true).2 (ownL (placeOf 9 gw gi gb (lst (mbits img l at_) gb.toNat).1)))
    else (0, (msetF img l at_ gb (lst (mbits img l at_) gb.toNat).1 true).1, (msetF img l at_ gb (lst (mbits img l at_) gb.toNat).1 true).2)
  else (0, 7, l)
def giveF (img : List Int) (l : List (Int × Int)) (at_ many n_ : Int) : Int × List (Int × Int) :=
  if 1 ≤ n_ ∧ n_ < many then (if mbits img l at_ n_.toNat = true then msetF img l at_ many n_ false else (3, l)) else (1, l)
theorem VI.takeB {gw gi gb : Int} (h : VI img l) : VI img (takeBF img l gw gi gb at_).2.2 := by
  unfold takeBF
  split
  · split
    · split <;> exact VI.clear h.mset
    · exact h.mset
  · exact h
theorem VI.give {n_ : Int} (h : VI img l) : VI img (giveF img l at_ many n_).2 := by
  unfold giveF
  split
  · split
    · exact h.mset
    · exact h
  · exact h
theorem place9 (gw gi gb n : Int) : -1 ≤ placeOf 9 gw gi gb n ∧ placeOf 9 gw gi gb n ≤ 7000 := by
  unfold placeOf
  split
  · rename_i h
    have h_ := may_out h
    simp only
    split <;> omega
  · omega

theorem atakeb_ok {gw gi gb : Int} (hv : VR img l) (ha : 0 ≤ at_ ∧ at_ ≤ 1000000000000) (hm : 1 ≤ gb ∧ gb ≤ 1000000000000) : atakeb_M img l gw gi gb at_ = some (takeBF img l gw gi gb at_) := by
  unfold atakeb_M atake1_M
  have key : ((mclear_M img l at_ gb).bind fun r6 => if r6.2 = true then ((mset_M img l at_ gb r6.1 true).bind fun r15 => if r15.1 = 0 then (atake1_J2 img gw gi gb r6 r15 true) else (atake1_J2 img gw gi gb r6 r15 false)) else (some (0, 7, l))) = some (takeBF img l gw gi gb at_) := by
    refine bind_of (mclear_ok hv ha hm) ?_
    unfold takeBF
    split
    · refine bind_of (mset_ok hv ha hm.2) ?_
      split
      · rename_i h0
        unfold atake1_J2
        rw [if_pos rfl]
        have hp := place9 gw gi gb (lst (mbits img l at_) gb.toNat).1
        refine need_of (by omega) (bind_of (aclear_ok _ (by simp)) ?_)
        unfold atake1_J1
        change (if (clearF _ _ (ownL _)).1 = 0 then _ else _) = _
        split <;> rfl
      · rename_i h0
        unfold atake1_J2
        rw [if_neg (by decide)]
        unfold atake1_J1
        rw [if_neg h0]
    · rfl
  exact bind_of key rfl
theorem agive_ok {n_ : Int} (hv : VR img l) (ha : 0 ≤ at_ ∧ at_ ≤ 1000000000000) (hm : many ≤ 1000000000000) : pgive_M img l at_ many many n_ = some (giveF img l at_ many n_) := by
  have j1f : ∀ h : 1 ≤ n_ ∧ n_ < many, pgive_J1 img l at_ many n_ false = some (giveF img l at_ many n_) := by
    intro h
    unfold pgive_J1 giveF
    rw [if_neg (by decide), if_pos h]
    refine bind_of (mget_ok hv ha hm) ?_
    rw [decide_eq_true (by omega), Bool.true_and]
    split
    · exact bind_of (mset_ok hv ha hm) rfl
    · rfl
  have j1t : ∀ h : ¬ (1 ≤ n_ ∧ n_ < many), pgive_J1 img l at_ many n_ true = some (giveF img l at_ many n_) := by
    intro h
    unfold pgive_J1 giveF
    rw [if_pos rfl, if_neg h]
  unfold pgive_M
  by_cases h1 : n_ < 1
  · rw [if_pos h1, decide_eq_true h1]; exact j1t (by omega)
  · rw [if_neg h1]
    by_cases h2 : n_ ≥ many
    · rw [decide_eq_true h2]; exact j1t (by omega)
    · rw [decide_eq_false h2]; exact j1f (by omega)
def freeF (img : List Int) (l : List (Int × Int)) (gi gb ia ba : Int) : Int × Int := (gi - (cnt (mbits img l ia) gi.toNat : Nat), gb - (cnt (mbits img l ba) gb.toNat : Nat))
theorem afree_ok {gi gb ia ba : Int} (hv : VR img l) (h1 : 0 ≤ ia ∧ ia ≤ 1000000000000) (h2 : 0 ≤ ba ∧ ba ≤ 1000000000000) (h3 : 1 ≤ gi ∧ gi ≤ 1000000000000) (h4 : 1 ≤ gb ∧ gb ≤ 1000000000000) : afree_M img l gi gb ia ba = some (freeF img l gi gb ia ba) := by
  have c1 := cnt_le (mbits img l ia) gi.toNat
  have c2 := cnt_le (mbits img l ba) gb.toNat
  have k1 : pfree_M img l ia gi gi = some (gi - (cnt (mbits img l ia) gi.toNat : Nat)) := by
    unfold pfree_M
    exact bind_of (mcount_ok hv h1 h3) (need_of (by omega) rfl)
  have k2 : pfree_M img l ba gb gb = some (gb - (cnt (mbits img l ba) gb.toNat : Nat)) := by
    unfold pfree_M
    exact bind_of (mcount_ok hv h2 h4) (need_of (by omega) rfl)
  unfold afree_M
  exact bind_of k1 (bind_of k2 rfl)
end
end Go.Proofs.YtmmclabkkigiaaaGreatDoor
