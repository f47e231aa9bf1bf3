/- Texts, one behind the other: A6l, Qa, Pe7, PEs, A6s, F6r, A6t, PEt, A6u, A6v, A6x. -/
import Derived.Test.YtmmclabkkigiaaaGreatDoorQEP6
set_option linter.unusedVariables false
set_option linter.unusedSimpArgs false
set_option maxRecDepth 20000
set_option maxHeartbeats 4000000
namespace Go.Proofs.YtmmclabkkigiaaaGreatDoor
open Go Go.RowKit
def rTake13_J2 (img : List Int) (gw : Int) (gi : Int) (gb : Int) (n_ : Int) (k_ : Int) (l49 : List (Int × Int)) : Option (Int × Int × List (Int × Int)) :=
 (rword13_M img l49 gw gi gb n_ k_).bind fun r53 =>
(rtaken13_M img l49 gw gi gb r53).bind fun r58 =>
some (r58.1, r58.2.1, r58.2.2)
def rTake13_J1 (img : List Int) (l : List (Int × Int)) (gw : Int) (gi : Int) (gb : Int) (n_ : Int) (k_ : Int) (r3 : Int × Int) (p9 : Bool) : Option (Int × Int × List (Int × Int)) :=
 if p9 = true then (some (r3.1, r3.2, l)) else (need ((img.length : Int) ≤ 1000000000000) <|
if May gw gi gb ∧ wordsOf gw gi gb ≤ (img.length : Int) then ((rfree_M img l gi gb (placeOf 6 gw gi gb 0) (placeOf 7 gw gi gb 0)).bind fun r32 =>
(rneed13_M img l gw gi gb n_ k_).bind fun r39 =>
if r32.2 < r39 then (some (0, 7, l)) else ((rword13_M img l gw gi gb n_ k_).bind fun r68 =>
if r68 < 0 then ((some (placeOf 8 gw gi gb n_)).bind fun r81 =>
need (-9223372036854775808 ≤ (r81 + 8) ∧ (r81 + 8) ≤ 9223372036854775807) <|
(rtaken13_M img l gw gi gb (r81 + 8)).bind fun r94 =>
if r94.2.1 = 0 then (rTake13_J2 img gw gi gb n_ k_ r94.2.2) else (some (0, r94.2.1, r94.2.2))) else (rTake13_J2 img gw gi gb n_ k_ l))) else (if (if May gw gi gb then (8 : Int) else 1) = 0 then (none) else ((some (if May gw gi gb then (8 : Int) else 1)).bind fun r127 =>
some (0, r127, l))))
def rTake13_M (img : List Int) (l : List (Int × Int)) (gw : Int) (gi : Int) (gb : Int) (n_ : Int) (k_ : Int) : Option (Int × Int × List (Int × Int)) :=
 (rat13_M img l gw gi gb n_ k_).bind fun r3 =>
if r3.2 = 0 then (rTake13_J1 img l gw gi gb n_ k_ r3 (!decide (r3.1 = 0))) else (rTake13_J1 img l gw gi gb n_ k_ r3 true)
theorem rTake13_walk {img : List Int} {l : List (Int × Int)} {gw : Int} {gi : Int} {gb : Int} {n_ : Int} {k_ : Int} {mb vb : Nat} {r : Int × Int × List (Int × Int)} (B : Nat) (w : World) (hm : rTake13_M img l gw gi gb n_ k_ = some r) : Spec Tryz.prog 69 #[(zp mb), (zi k_)] B w [zb mb 127 [(zp vb), (zi gw), (zi gi), (zi gb), (zi n_)], refA (ptr vb) img l] (fun v H' => v = (.tuple #[(zi r.1), (zi r.2.1)]) ∧ H' = [zb mb 127 [(zp vb), (zi gw), (zi gi), (zi gb), (zi n_)], refA (ptr vb) img r.2.2]) := by
 refine spec_W Tryz.func69 rfl fun l0 hs => ?_
 unfold rTake13_M at hm
 refine W.sr fun K1 hK1 => ?_
 refine zE 2 (hK1 _ _ ?_)
 refine W.sr fun K2 hK2 => ?_
 refine zR 2 ?_
 obtain ⟨r3, h4, hm⟩ := bind_some hm
 refine zC00 hs (rat13_walk (k_ := k_) (img := img) (l := l) (gw := gw) (gi := gi) (gb := gb) (n_ := n_) (hmb := (hs.heapAt 0 rfl)) (hv := (hs.entAt 1 rfl refA_at)) (hm := h4) B _) fun w5 hs7 => ?_
 refine zE 5 (hK2 _ _ ?_)
 refine W.seq fun K8 hK8 => ?_
 refine W.seq_join (fun s_ w_ => ∃ (p9 : Bool), (∃ us, s_ = slots 79 [(0, (zp mb)), (1, (zi k_)), (6, (zi r3.1)), (7, (zi r3.2)), (22, (.bool p9))] us) ∧ St B w l0 w_ [refA (ptr vb) img l, zb mb 127 [(zp vb), (zi gw), (zi gi), (zi gb), (zi n_)]] ∧ rTake13_J1 img l gw gi gb n_ k_ r3 p9 = some r) ?_ ?_
 ·
  rintro _ w10 ⟨p9, ⟨us, rfl⟩, hs11, hm⟩
  unfold rTake13_J1 at hm
  refine W.cond p9 (by kernel_rfl) (fun h12 => ?_) (fun h12 => ?_)
  ·
   have h12p : p9 = true := h12
   replace hm := ite_yes hm h12p
   refine W.sr fun K13 hK13 => ?_
   refine zE 4 (hK13 _ _ ?_)
   refine W.ret (ret_seq ?_)
   obtain rfl := some_inj hm
   have hs14 := St.f1 hs11
   refine ret_of (.tuple #[(zi r3.1), (zi r3.2)]) (by kernel_rfl) ⟨_, ⟨rfl, rfl⟩, hs14⟩
  have h12p : ¬ (p9 = true) := ne_true_of_eq_false h12
  replace hm := ite_no hm h12p
  refine W.skip ?_
  refine hK8 _ _ ?_
  refine W.seq fun K16 hK16 => ?_
  have hs17 := hs11.drew
  refine W.regionD [(0, 0), (1, 1), (2, 2), (4, 4), (0, 0), (16, 16), (32, 32), (64, 64), (136, 136), (256, 256), (512, 512), (512, 512), (2047, 1024), (8191, 2048)] (fun w_ => St B w l0 w_ [refA (ptr vb) img l, zb mb 127 [(zp vb), (zi gw), (zi gi), (zi gb), (zi n_)]]) (by kernel_rfl) hs17 ?_
  refine zA (zp mb) 0 hs17 ?_
  refine zA (zp mb) 1 hs17 ?_
  refine zA (zp mb) 2 hs17 ?_
  refine zB 3 ⟨mb, 0, none⟩ (zp vb) (fun _ hS_ => (hS_.cellAt 1 rfl rfl)) hs17 ?_
  refine zA (zp mb) 4 hs17 ?_
  refine zA (zp mb) 5 hs17 ?_
  refine zA (.pointer (some ⟨mb, 1, none⟩)) 6 hs17 ?_
  refine any_R 7 (by kernel_rfl) (fun _ hS_ => runs_loadAgg (ad := ⟨mb, 1, none⟩) (cs := [(zi gw), (zi gi), (zi gb)]) (by kernel_rfl) (cells_sub (hS_.heapAt 1 rfl) rfl)) hs17 ?_
  refine any_step 8 (by kernel_rfl) (by kernel_rfl) ?_
  obtain ⟨h18, hm⟩ := need_some hm
  rcases Bool.eq_false_or_eq_true (decide (May gw gi gb ∧ wordsOf gw gi gb ≤ (img.length : Int))) with h19 | h19
  ·
   obtain ⟨h19p, hm⟩ := iY hm h19
   refine ops_call0 hs17 (by kernel_rfl) (rnew_ok (gw := gw) (gi := gi) (gb := gb) (hv := (hs17.entAt 0 rfl refA_at)) (hz := h18) (hP := h19p) B _) ?_
   rintro _ _ w23 ⟨b20, b21, b22, rfl, rfl⟩ hs24
   have hs25 := St.ap3 hs24
   have hs26 := St.f4 hs25
   have hs27 := St.f4 hs26
   have hs28 := St.tk2 hs27
   refine ops_done (by kernel_rfl) ⟨hs28, ?_⟩
   refine zA (.tuple #[(zp b20), (zi 0)]) 9 hs28 ?_
   refine zA (zp b20) 10 hs28 ?_
   refine zA (zi 0) 11 hs28 ?_
   refine zA (zp b20) 12 hs28 ?_
   refine zA (zi 0) 13 hs28 ?_
   refine any_done (by kernel_rfl) ?_
   refine hK16 _ _ ?_
   refine W.seq fun K29 hK29 => ?_
   refine W.sr fun K30 hK30 => ?_
   refine zE 2 (hK30 _ _ ?_)
   refine W.cond_false false (by kernel_rfl) rfl ?_
   refine W.skip ?_
   refine hK29 _ _ ?_
   refine W.sr fun K31 hK31 => ?_
   refine zR 1 ?_
   obtain ⟨r32, h33, hm⟩ := bind_some hm
   refine zC00 hs25 (rfree_walk (hab := (hs25.heapAt 0 rfl)) (hib := (hs25.heapAt 1 rfl)) (hbb := (hs25.heapAt 2 rfl)) (hv := (hs25.entAt 3 rfl refA_at)) (hm := h33) B _) fun w34 hs36 => ?_
   refine zE 5 (hK31 _ _ ?_)
   refine W.seq fun K37 hK37 => ?_
   refine W.sr fun K38 hK38 => ?_
   refine zR 3 ?_
   obtain ⟨r39, h40, hm⟩ := bind_some hm
   refine zC00 hs36 (rneed13_walk (k_ := k_) (img := img) (l := l) (gw := gw) (gi := gi) (gb := gb) (n_ := n_) (hmb := (hs36.heapAt 4 rfl)) (hv := (hs36.entAt 3 rfl refA_at)) (hm := h40) B _) fun w41 hs43 => ?_
   refine zE 1 (hK38 _ _ ?_)
   refine W.cond (decide (r32.2 < r39)) (by kernel_rfl) (fun h44 => ?_) (fun h44 => ?_)
   ·
    obtain ⟨h44p, hm⟩ := iY hm h44
    refine W.sr fun K45 hK45 => ?_
    refine zE 2 (hK45 _ _ ?_)
    refine W.ret (ret_seq ?_)
    obtain rfl := some_inj hm
    have hs46 := St.f3 hs43
    have hs47 := St.f4 hs46
    have hs48 := St.tk2 hs47
    refine ret_of (.tuple #[(zi 0), (zi 7)]) (by kernel_rfl) ⟨_, ⟨rfl, rfl⟩, hs48⟩
   obtain ⟨h44p, hm⟩ := iN hm h44
   refine W.skip ?_
   refine hK37 _ _ ?_
   refine W.seq_join (fun s_ w_ => ∃ (l49 : List (Int × Int)), (∃ us, s_ = slots 79 [(0, (zp mb)), (1, (zi k_))] us) ∧ St B w l0 w_ [refA (ptr vb) img l49, zb mb 127 [(zp vb), (zi gw), (zi gi), (zi gb), (zi n_)], zb b21 175 [(zp vb), (zi (placeOf 6 gw gi gb 0)), (zi gi)], zb b22 175 [(zp vb), (zi (placeOf 7 gw gi gb 0)), (zi gb)], zb b20 177 [(zp vb), (zi gw), (zi gi), (zi gb), (zp b21), (zp b22)]] ∧ rTake13_J2 img gw gi gb n_ k_ l49 = some r) ?_ ?_
   ·
    rintro _ w50 ⟨l49, ⟨us, rfl⟩, hs51, hm⟩
    unfold rTake13_J2 at hm
    refine W.sr fun K52 hK52 => ?_
    refine zR 3 ?_
    obtain ⟨r53, h54, hm⟩ := bind_some hm
    refine zC00 hs51 (rword13_walk (k_ := k_) (img := img) (l := l49) (gw := gw) (gi := gi) (gb := gb) (n_ := n_) (hmb := (hs51.heapAt 1 rfl)) (hv := (hs51.entAt 0 rfl refA_at)) (hm := h54) B _) fun w55 hs57 => ?_
    obtain ⟨r58, h59, hm⟩ := bind_some hm
    have hs60 := St.f1 hs57
    refine zC22 hs60 (rtaken13_walk (mb := mb) (vb := vb) (at_ := r53) (img := img) (l := l49) (gw := gw) (gi := gi) (gb := gb) (n_ := n_) (hm := h59) B _) fun w61 hs63 => ?_
    refine zE 4 (hK52 _ _ ?_)
    refine W.ret ?_
    obtain rfl := some_inj hm
    have hs64 := St.f1 hs63
    have hs65 := St.f1 hs64
    have hs66 := St.tk2 hs65
    refine ret_of (.tuple #[(zi r58.1), (zi r58.2.1)]) (by kernel_rfl) ⟨_, ⟨rfl, rfl⟩, hs66⟩
   refine W.sr fun K67 hK67 => ?_
   refine zR 2 ?_
   obtain ⟨r68, h69, hm⟩ := bind_some hm
   refine zC00 hs43 (rword13_walk (k_ := k_) (img := img) (l := l) (gw := gw) (gi := gi) (gb := gb) (n_ := n_) (hmb := (hs43.heapAt 4 rfl)) (hv := (hs43.entAt 3 rfl refA_at)) (hm := h69) B _) fun w70 hs72 => ?_
   refine zE 1 (hK67 _ _ ?_)
   refine W.cond (decide (r68 < 0)) (by kernel_rfl) (fun h73 => ?_) (fun h73 => ?_)
   ·
    obtain ⟨h73p, hm⟩ := iY hm h73
    refine W.seq fun K74 hK74 => ?_
    have hs75 := hs72.drew
    have hs76 := St.f4 hs75
    have hs77 := St.f3 hs76
    have hs78 := St.f3 hs77
    have hs79 := St.f3 hs78
    have hs80 := St.tk4 hs79
    refine W.regionD [(0, 0), (0, 0), (2, 2), (4, 4), (8, 8), (0, 0), (32, 32), (64, 64), (128, 128), (272, 272), (512, 512), (1537, 1025), (2048, 2048), (4096, 4096), (4096, 4096), (32767, 16384)] (fun w_ => St B w l0 w_ [zb b20 177 [(zp vb), (zi gw), (zi gi), (zi gb), (zp b21), (zp b22)], zb b21 175 [(zp vb), (zi (placeOf 6 gw gi gb 0)), (zi gi)], zb b22 175 [(zp vb), (zi (placeOf 7 gw gi gb 0)), (zi gb)], zb mb 127 [(zp vb), (zi gw), (zi gi), (zi gb), (zi n_)]]) (by kernel_rfl) hs80 ?_
    refine zA (zp mb) 0 hs80 ?_
    refine zA (zp mb) 1 hs80 ?_
    refine zA (zp mb) 2 hs80 ?_
    refine zA (.pointer (some ⟨mb, 1, none⟩)) 3 hs80 ?_
    refine any_R 4 (by kernel_rfl) (fun _ hS_ => runs_loadAgg (ad := ⟨mb, 1, none⟩) (cs := [(zi gw), (zi gi), (zi gb)]) (by kernel_rfl) (cells_sub (hS_.heapAt 3 rfl) rfl)) hs80 ?_
    refine zA (zp mb) 5 hs80 ?_
    refine zA (zp mb) 6 hs80 ?_
    refine zA (.pointer (some ⟨mb, 4, none⟩)) 7 hs80 ?_
    refine zB 8 ⟨mb, 4, none⟩ (zi n_) (fun _ hS_ => (hS_.cellAt 3 rfl rfl)) hs80 ?_
    refine any_step 9 (by kernel_rfl) (by kernel_rfl) ?_
    obtain ⟨r81, h82, hm⟩ := bind_some hm
    replace h82 := some_inj h82
    refine ops_call0 hs75 (by kernel_rfl) (rinodeat_spec (gw := gw) (gi := gi) (gb := gb) (n_ := n_) B _) ?_
    rintro _ _ w83 ⟨hv85, hH86⟩ hs84
    rw [h82] at hv85
    try rw [h82] at hH86
    subst hv85 hH86
    have hs87 := St.ap0 hs84
    have hs88 := St.f4 hs87
    have hs89 := St.f3 hs88
    have hs90 := St.f3 hs89
    have hs91 := St.f3 hs90
    have hs92 := St.tk4 hs91
    refine ops_done (by kernel_rfl) ⟨hs92, ?_⟩
    obtain ⟨h93, hm⟩ := need_some hm
    refine any_val (v := .int .i64 (IntKind.i64.wrap (r81 + 8))) (v' := .int .i64 (r81 + 8)) 10 (by kernel_rfl) (fun _ => by kernel_rfl) (congrArg (Value.int .i64) (wrap_i64 h93.1 h93.2)) hs92 ?_
    refine any_step 11 (by kernel_rfl) (by kernel_rfl) ?_
    obtain ⟨r94, h95, hm⟩ := bind_some hm
    have hs96 := St.f3 hs87
    have hs97 := St.f4 hs96
    refine zC22 hs97 (rtaken13_walk (mb := mb) (vb := vb) (at_ := (r81 + 8)) (img := img) (l := l) (gw := gw) (gi := gi) (gb := gb) (n_ := n_) (hm := h95) B _) fun w98 hs100 => ?_
    have hs101 := St.f4 hs100
    have hs102 := St.f4 hs101
    have hs103 := St.f4 hs102
    have hs104 := St.tk4 hs103
    refine ops_done (by kernel_rfl) ⟨hs104, ?_⟩
    refine zA (.tuple #[(zi r94.1), (zi r94.2.1)]) 12 hs104 ?_
    refine zA (zi r94.1) 13 hs104 ?_
    refine zA (zi r94.2.1) 14 hs104 ?_
    refine zA (zi r94.2.1) 15 hs104 ?_
    refine any_done (by kernel_rfl) ?_
    refine hK74 _ _ ?_
    refine W.sr fun K105 hK105 => ?_
    refine zE 2 (hK105 _ _ ?_)
    refine W.cond (!decide (r94.2.1 = 0)) (by kernel_rfl) (fun h106 => ?_) (fun h106 => ?_)
    rotate_left
    ·
     have h106p : r94.2.1 = 0 := of_decide_eq_true (bnot_false h106)
     replace hm := ite_yes hm h106p
     refine W.skip ?_
     have hs107 := St.f2 hs100
     have hs108 := St.f4 hs107
     have hs109 := St.f4 hs108
     have hs110 := St.f3 hs109
     have hs111 := St.f4 hs110
     exact ⟨r94.2.2, slots_intro _ (by kernel_rfl), hs111, hm⟩
    have h106p : ¬ (r94.2.1 = 0) := of_decide_eq_false (bnot_true h106)
    replace hm := ite_no hm h106p
    refine W.sr fun K112 hK112 => ?_
    refine zE 3 (hK112 _ _ ?_)
    refine W.ret (ret_seq ?_)
    obtain rfl := some_inj hm
    have hs113 := St.f1 hs100
    have hs114 := St.f1 hs113
    have hs115 := St.tk2 hs114
    refine ret_of (.tuple #[(zi 0), (zi r94.2.1)]) (by kernel_rfl) ⟨_, ⟨rfl, rfl⟩, hs115⟩
   obtain ⟨h73p, hm⟩ := iN hm h73
   refine W.skip ?_
   have hs116 := St.f2 hs72
   have hs117 := St.f2 hs116
   have hs118 := St.f4 hs117
   have hs119 := St.f4 hs118
   exact ⟨l, slots_intro _ (by kernel_rfl), hs119, hm⟩
  obtain ⟨h19p, hm⟩ := iN hm h19
  refine zC00 hs17 (rnew_err (gw := gw) (gi := gi) (gb := gb) (hv := (hs17.entAt 0 rfl refA_at)) (hz := h18) (hN := h19p) B _) fun w120 hs122 => ?_
  refine ops_done (by kernel_rfl) ⟨hs122, ?_⟩
  refine zA (.tuple #[(.pointer none), (zi (if May gw gi gb then (8 : Int) else 1))]) 9 hs122 ?_
  refine zA (.pointer none) 10 hs122 ?_
  refine zA (zi (if May gw gi gb then (8 : Int) else 1)) 11 hs122 ?_
  refine zA (.pointer none) 12 hs122 ?_
  refine zA (zi (if May gw gi gb then (8 : Int) else 1)) 13 hs122 ?_
  refine any_done (by kernel_rfl) ?_
  refine hK16 _ _ ?_
  refine W.seq fun K123 hK123 => ?_
  refine W.sr fun K124 hK124 => ?_
  refine zE 2 (hK124 _ _ ?_)
  refine W.cond (!decide ((if May gw gi gb then (8 : Int) else 1) = 0)) (by kernel_rfl) (fun h125 => ?_) (fun h125 => ?_)
  rotate_left
  ·
   have h125p : (if May gw gi gb then (8 : Int) else 1) = 0 := of_decide_eq_true (bnot_false h125)
   exact absurd h125p (by split <;> decide)
  have h125p : ¬ ((if May gw gi gb then (8 : Int) else 1) = 0) := of_decide_eq_false (bnot_true h125)
  replace hm := ite_no hm h125p
  refine W.sr fun K126 hK126 => ?_
  refine zR 3 ?_
  obtain ⟨r127, h128, hm⟩ := bind_some hm
  replace h128 := some_inj h128
  refine ops_set 5 (v := .int .i64 r127) (Eq.trans (by kernel_rfl) (congrArg (Value.int .i64) h128)) ?_
  refine zD (hK126 _ _ ?_)
  refine W.ret (ret_seq ?_)
  obtain rfl := some_inj hm
  have hs129 := St.f1 hs122
  refine ret_of (.tuple #[(zi 0), (zi r127)]) (by kernel_rfl) ⟨_, ⟨rfl, rfl⟩, hs129⟩
 refine W.region ?_
 refine zR 3 ?_
 rcases Bool.eq_false_or_eq_true (!decide (r3.2 = 0)) with h130 | h130
 rotate_left
 ·
  have h130p : r3.2 = 0 := of_decide_eq_true (bnot_false h130)
  replace hm := ite_yes hm h130p
  refine zS 19 h130 ?_
  refine zS 18 h130 ?_
  refine zE 3 ?_
  have hs131 := St.f1 hs7
  exact ⟨(!decide (r3.1 = 0)), slots_intro _ (by kernel_rfl), hs131, hm⟩
 have h130p : ¬ (r3.2 = 0) := of_decide_eq_false (bnot_true h130)
 replace hm := ite_no hm h130p
 refine zS 19 h130 ?_
 refine zS 18 h130 ?_
 refine zE 3 ?_
 have hs132 := St.f1 hs7
 exact ⟨true, slots_intro _ (by kernel_rfl), hs132, hm⟩
def rDrop13_J1 (img : List Int) (gw : Int) (gi : Int) (gb : Int) (r19 : Int × List (Int × Int)) (r31 : Int) (r44 : Int) : Option (Int × List (Int × Int)) :=
 (rgiven13_M img r19.2 gw gi gb (r31 + 8) r44).bind fun r53 =>
some (r53.1, r53.2)
def rDrop13_B0 (img : List Int) (gw : Int) (gi : Int) (gb : Int) (r19 : Int × List (Int × Int)) (r31 : Int) (r44 : Int) (k61 : Int → Option (Int × List (Int × Int))) (p60 : Int) : Option (Int × List (Int × Int)) :=
 if p60 < 8 then (need (-9223372036854775808 ≤ ((placeOf 9 gw gi gb r44) + p60) ∧ ((placeOf 9 gw gi gb r44) + p60) ≤ 9223372036854775807) <|
if (vget img r19.2 ((placeOf 9 gw gi gb r44) + p60)) = 0 then (need (-9223372036854775808 ≤ (p60 + 1) ∧ (p60 + 1) ≤ 9223372036854775807) <|
k61 (p60 + 1)) else (some (0, r19.2))) else (rDrop13_J1 img gw gi gb r19 r31 r44)
def rDrop13_M (img : List Int) (l : List (Int × Int)) (gw : Int) (gi : Int) (gb : Int) (n_ : Int) (k_ : Int) : Option (Int × List (Int × Int)) :=
 (rat13_M img l gw gi gb n_ k_).bind fun r3 =>
if r3.2 = 0 then (if r3.1 = 0 then (some (r3.2, l)) else ((rword13_M img l gw gi gb n_ k_).bind fun r14 =>
(rgiven13_M img l gw gi gb r14 r3.1).bind fun r19 =>
if r19.1 = 0 then ((some (placeOf 8 gw gi gb n_)).bind fun r31 =>
need (-9223372036854775808 ≤ (r31 + 8) ∧ (r31 + 8) ≤ 9223372036854775807) <|
need (-9223372036854775808 ≤ (vget img r19.2 (r31 + 8)) ∧ (vget img r19.2 (r31 + 8)) ≤ 9223372036854775807) <|
(some (vget img r19.2 (r31 + 8))).bind fun r44 =>
if r44 = 0 then (some (0, r19.2)) else (iter (fun k_ s_ => rDrop13_B0 img gw gi gb r19 r31 r44 k_ s_) FUEL 0)) else (some (r19.1, r19.2)))) else (some (r3.2, l))
theorem rDrop13_walk {img : List Int} {l : List (Int × Int)} {gw : Int} {gi : Int} {gb : Int} {n_ : Int} {k_ : Int} {mb vb : Nat} {r : Int × List (Int × Int)} (B : Nat) (w : World) (hm : rDrop13_M img l gw gi gb n_ k_ = some r) : Spec Tryz.prog 73 #[(zp mb), (zi k_)] B w [zb mb 127 [(zp vb), (zi gw), (zi gi), (zi gb), (zi n_)], refA (ptr vb) img l] (fun v H' => v = (zi r.1) ∧ H' = [zb mb 127 [(zp vb), (zi gw), (zi gi), (zi gb), (zi n_)], refA (ptr vb) img r.2]) := by
 refine spec_W Tryz.func73 rfl fun l0 hs => ?_
 unfold rDrop13_M at hm
 refine W.sr fun K1 hK1 => ?_
 refine zE 1 (hK1 _ _ ?_)
 refine W.sr fun K2 hK2 => ?_
 refine zR 2 ?_
 obtain ⟨r3, h4, hm⟩ := bind_some hm
 refine zC00 hs (rat13_walk (k_ := k_) (img := img) (l := l) (gw := gw) (gi := gi) (gb := gb) (n_ := n_) (hmb := (hs.heapAt 0 rfl)) (hv := (hs.entAt 1 rfl refA_at)) (hm := h4) B _) fun w5 hs7 => ?_
 refine zE 5 (hK2 _ _ ?_)
 refine W.seq fun K8 hK8 => ?_
 refine W.sr fun K9 hK9 => ?_
 refine zR 3 ?_
 rcases Bool.eq_false_or_eq_true (!decide (r3.2 = 0)) with h10 | h10
 rotate_left
 ·
  have h10p : r3.2 = 0 := of_decide_eq_true (bnot_false h10)
  replace hm := ite_yes hm h10p
  refine zS 18 h10 ?_
  refine zS 17 h10 ?_
  refine zE 3 (hK9 _ _ ?_)
  refine W.cond (decide (r3.1 = 0)) (by kernel_rfl) (fun h11 => ?_) (fun h11 => ?_)
  ·
   obtain ⟨h11p, hm⟩ := iY hm h11
   refine W.sr fun K12 hK12 => ?_
   refine zE 2 (hK12 _ _ ?_)
   refine W.ret (ret_seq ?_)
   obtain rfl := some_inj hm
   refine ret_of (zi r3.2) (by kernel_rfl) ⟨_, ⟨rfl, rfl⟩, hs7⟩
  obtain ⟨h11p, hm⟩ := iN hm h11
  refine W.skip ?_
  refine hK8 _ _ ?_
  refine W.sr fun K13 hK13 => ?_
  refine zR 3 ?_
  obtain ⟨r14, h15, hm⟩ := bind_some hm
  refine zC00 hs7 (rword13_walk (k_ := k_) (img := img) (l := l) (gw := gw) (gi := gi) (gb := gb) (n_ := n_) (hmb := (hs7.heapAt 0 rfl)) (hv := (hs7.entAt 1 rfl refA_at)) (hm := h15) B _) fun w16 hs18 => ?_
  refine zR 1 ?_
  obtain ⟨r19, h20, hm⟩ := bind_some hm
  have hs21 := St.f1 hs18
  have hs22 := St.f1 hs21
  refine zC22 hs22 (rgiven13_walk (mb := mb) (vb := vb) (at_ := r14) (b_ := r3.1) (img := img) (l := l) (gw := gw) (gi := gi) (gb := gb) (n_ := n_) (hm := h20) B _) fun w23 hs25 => ?_
  refine zE 1 (hK13 _ _ ?_)
  refine W.seq fun K26 hK26 => ?_
  refine W.sr fun K27 hK27 => ?_
  refine zE 2 (hK27 _ _ ?_)
  refine W.cond (!decide (r19.1 = 0)) (by kernel_rfl) (fun h28 => ?_) (fun h28 => ?_)
  rotate_left
  ·
   have h28p : r19.1 = 0 := of_decide_eq_true (bnot_false h28)
   replace hm := ite_yes hm h28p
   refine W.skip ?_
   refine hK26 _ _ ?_
   refine W.seq fun K29 hK29 => ?_
   have hs30 := hs25.drew
   refine W.regionD [(0, 0), (1, 1), (2, 2), (4, 4), (0, 0), (16, 16), (32, 32), (64, 64), (136, 136), (256, 256), (1023, 512)] (fun w_ => St B w l0 w_ [zb mb 127 [(zp vb), (zi gw), (zi gi), (zi gb), (zi n_)], refA (ptr vb) img r19.2]) (by kernel_rfl) hs30 ?_
   refine zA (zp mb) 0 hs30 ?_
   refine zA (zp mb) 1 hs30 ?_
   refine zA (.pointer (some ⟨mb, 1, none⟩)) 2 hs30 ?_
   refine any_R 3 (by kernel_rfl) (fun _ hS_ => runs_loadAgg (ad := ⟨mb, 1, none⟩) (cs := [(zi gw), (zi gi), (zi gb)]) (by kernel_rfl) (cells_sub (hS_.heapAt 0 rfl) rfl)) hs30 ?_
   refine zA (zp mb) 4 hs30 ?_
   refine zA (zp mb) 5 hs30 ?_
   refine zA (.pointer (some ⟨mb, 4, none⟩)) 6 hs30 ?_
   refine zB 7 ⟨mb, 4, none⟩ (zi n_) (fun _ hS_ => (hS_.cellAt 0 rfl rfl)) hs30 ?_
   refine any_step 8 (by kernel_rfl) (by kernel_rfl) ?_
   obtain ⟨r31, h32, hm⟩ := bind_some hm
   replace h32 := some_inj h32
   refine ops_call0 hs30 (by kernel_rfl) (rinodeat_spec (gw := gw) (gi := gi) (gb := gb) (n_ := n_) B _) ?_
   rintro _ _ w33 ⟨hv35, hH36⟩ hs34
   rw [h32] at hv35
   try rw [h32] at hH36
   subst hv35 hH36
   have hs37 := St.ap0 hs34
   refine ops_done (by kernel_rfl) ⟨hs37, ?_⟩
   obtain ⟨h38, hm⟩ := need_some hm
   refine any_val (v := .int .i64 (IntKind.i64.wrap (r31 + 8))) (v' := .int .i64 (r31 + 8)) 9 (by kernel_rfl) (fun _ => by kernel_rfl) (congrArg (Value.int .i64) (wrap_i64 h38.1 h38.2)) hs37 ?_
   refine zA (zi (r31 + 8)) 10 hs37 ?_
   refine any_done (by kernel_rfl) ?_
   refine hK29 _ _ ?_
   refine W.sr fun K39 hK39 => ?_
   refine zR 3 ?_
   refine zL ⟨mb, 0, none⟩ (zp vb) (hs37.cellAt 0 rfl rfl) ?_
   refine zR 1 ?_
   refine zC00 hs37 (rget_spec (at_ := (r31 + 8)) (hv := (hs37.entAt 1 rfl refA_at)) B _) fun w40 hs42 => ?_
   obtain ⟨h43, hm⟩ := need_some hm
   refine zI _ (wrap_i64 h43.1 h43.2) ?_
   refine zR 1 ?_
   obtain ⟨r44, h45, hm⟩ := bind_some hm
   replace h45 := some_inj h45
   refine ops_set 8 (v := .int .i64 r44) (Eq.trans (by kernel_rfl) (congrArg (Value.int .i64) h45)) ?_
   refine zD (hK39 _ _ ?_)
   refine W.seq fun K46 hK46 => ?_
   refine W.sr fun K47 hK47 => ?_
   refine zE 2 (hK47 _ _ ?_)
   refine W.cond (decide (r44 = 0)) (by kernel_rfl) (fun h48 => ?_) (fun h48 => ?_)
   ·
    obtain ⟨h48p, hm⟩ := iY hm h48
    refine W.sr fun K49 hK49 => ?_
    refine zE 1 (hK49 _ _ ?_)
    refine W.ret (ret_seq ?_)
    obtain rfl := some_inj hm
    refine ret_of (zi 0) (by kernel_rfl) ⟨_, ⟨rfl, rfl⟩, hs42⟩
   obtain ⟨h48p, hm⟩ := iN hm h48
   refine W.skip ?_
   refine hK46 _ _ ?_
   refine W.seq_join (fun s_ w_ => (∃ us, s_ = slots 73 [(0, (zp mb)), (7, (zi (r31 + 8))), (8, (zi r44))] us) ∧ St B w l0 w_ [refA (ptr vb) img r19.2, zb mb 127 [(zp vb), (zi gw), (zi gi), (zi gb), (zi n_)]] ∧ rDrop13_J1 img gw gi gb r19 r31 r44 = some r) ?_ ?_
   ·
    rintro _ w50 ⟨⟨us, rfl⟩, hs51, hm⟩
    unfold rDrop13_J1 at hm
    refine W.sr fun K52 hK52 => ?_
    refine zR 3 ?_
    obtain ⟨r53, h54, hm⟩ := bind_some hm
    have hs55 := St.f1 hs51
    refine zC22 hs55 (rgiven13_walk (mb := mb) (vb := vb) (at_ := (r31 + 8)) (b_ := r44) (img := img) (l := r19.2) (gw := gw) (gi := gi) (gb := gb) (n_ := n_) (hm := h54) B _) fun w56 hs58 => ?_
    refine zE 1 (hK52 _ _ ?_)
    refine W.ret ?_
    obtain rfl := some_inj hm
    refine ret_of (zi r53.1) (by kernel_rfl) ⟨_, ⟨rfl, rfl⟩, hs58⟩
   refine W.sr fun K59 hK59 => ?_
   refine zE 1 (hK59 _ _ ?_)
   refine W.block ?_
   have hs65 := St.f1 hs42
   refine W.loop_iter (G := Int) (σ := Int) (fun | p60 => p60) (fun | p60, s_, w_ => (∃ us, s_ = slots 73 [(0, (zp mb)), (7, (zi (r31 + 8))), (8, (zi r44)), (9, (zi p60))] us) ∧ St B w l0 w_ [refA (ptr vb) img r19.2, zb mb 127 [(zp vb), (zi gw), (zi gi), (zi gb), (zi n_)]]) 0 ⟨slots_intro _ (by kernel_rfl), hs65⟩ hm ?_
   rintro k61 ih62 p60 _ w63 ⟨⟨us, rfl⟩, hs64⟩ hm
   replace hm : rDrop13_B0 img gw gi gb r19 r31 r44 k61 p60 = some r := hm
   unfold rDrop13_B0 at hm
   refine W.seq fun K66 hK66 => ?_
   refine W.sr fun K67 hK67 => ?_
   refine zE 2 (hK67 _ _ ?_)
   refine W.cond (decide (p60 < 8)) (by kernel_rfl) (fun h68 => ?_) (fun h68 => ?_)
   ·
    obtain ⟨h68p, hm⟩ := iY hm h68
    refine W.skip ?_
    refine hK66 _ _ ?_
    refine W.seq fun K69 hK69 => ?_
    refine W.block ?_
    refine W.seq fun K70 hK70 => ?_
    have hs71 := hs64.drew
    refine W.regionD [(0, 0), (1, 1), (2, 2), (4, 4), (0, 0), (16, 16), (32, 32), (64, 64), (0, 0), (384, 384), (0, 0), (1536, 1536), (2568, 2056), (4096, 4096)] (fun w_ => St B w l0 w_ [refA (ptr vb) img r19.2, zb mb 127 [(zp vb), (zi gw), (zi gi), (zi gb), (zi n_)]]) (by kernel_rfl) hs71 ?_
    refine zA (zp mb) 0 hs71 ?_
    refine zA (zp mb) 1 hs71 ?_
    refine zA (zp mb) 2 hs71 ?_
    refine zB 3 ⟨mb, 0, none⟩ (zp vb) (fun _ hS_ => (hS_.cellAt 1 rfl rfl)) hs71 ?_
    refine zA (zp mb) 4 hs71 ?_
    refine zA (zp mb) 5 hs71 ?_
    refine zA (.pointer (some ⟨mb, 1, none⟩)) 6 hs71 ?_
    refine any_R 7 (by kernel_rfl) (fun _ hS_ => runs_loadAgg (ad := ⟨mb, 1, none⟩) (cs := [(zi gw), (zi gi), (zi gb)]) (by kernel_rfl) (cells_sub (hS_.heapAt 1 rfl) rfl)) hs71 ?_
    refine zA (zi r44) 8 hs71 ?_
    refine zA (zi p60) 10 hs71 ?_
    refine any_step 9 (by kernel_rfl) (by kernel_rfl) ?_
    refine zC00 hs71 (rblockat_spec (gw := gw) (gi := gi) (gb := gb) (n_ := r44) B _) fun w72 hs74 => ?_
    refine ops_done (by kernel_rfl) ⟨hs74, ?_⟩
    obtain ⟨h75, hm⟩ := need_some hm
    refine any_val (v := .int .i64 (IntKind.i64.wrap ((placeOf 9 gw gi gb r44) + p60))) (v' := .int .i64 ((placeOf 9 gw gi gb r44) + p60)) 11 (by kernel_rfl) (fun _ => by kernel_rfl) (congrArg (Value.int .i64) (wrap_i64 h75.1 h75.2)) hs74 ?_
    refine any_step 12 (by kernel_rfl) (by kernel_rfl) ?_
    refine zC00 hs74 (rget_spec (at_ := ((placeOf 9 gw gi gb r44) + p60)) (hv := (hs74.entAt 0 rfl refA_at)) B _) fun w76 hs78 => ?_
    refine ops_done (by kernel_rfl) ⟨hs78, ?_⟩
    refine zA (.bool (!decide ((vget img r19.2 ((placeOf 9 gw gi gb r44) + p60)) = 0))) 13 hs78 ?_
    refine any_done (by kernel_rfl) ?_
    refine hK70 _ _ ?_
    refine W.cond (!decide ((vget img r19.2 ((placeOf 9 gw gi gb r44) + p60)) = 0)) (by kernel_rfl) (fun h79 => ?_) (fun h79 => ?_)
    rotate_left
    ·
     have h79p : (vget img r19.2 ((placeOf 9 gw gi gb r44) + p60)) = 0 := of_decide_eq_true (bnot_false h79)
     replace hm := ite_yes hm h79p
     refine W.skip ?_
     refine normal_block ?_
     refine hK69 _ _ ?_
     refine W.region ?_
     refine zR 1 ?_
     obtain ⟨h80, hm⟩ := need_some hm
     refine zI _ (wrap_i64 h80.1 h80.2) ?_
     refine zE 1 ?_
     refine loopAt_next ?_
     exact ih62 (p60 + 1) _ _ ⟨slots_intro _ (by kernel_rfl), hs78⟩ hm
    have h79p : ¬ ((vget img r19.2 ((placeOf 9 gw gi gb r44) + p60)) = 0) := of_decide_eq_false (bnot_true h79)
    replace hm := ite_no hm h79p
    refine W.sr fun K81 hK81 => ?_
    refine zE 1 (hK81 _ _ ?_)
    refine W.ret (ret_block (ret_seq (ret_seq (ret_block (ret_seq ?_)))))
    obtain rfl := some_inj hm
    have hs82 := St.f1 hs78
    refine ret_of (zi 0) (by kernel_rfl) ⟨_, ⟨rfl, rfl⟩, hs82⟩
   obtain ⟨h68p, hm⟩ := iN hm h68
   refine W.exit (exit_seq (exit_seq (exit_here ?_)))
   exact ⟨slots_intro _ (by kernel_rfl), hs64, hm⟩
  have h28p : ¬ (r19.1 = 0) := of_decide_eq_false (bnot_true h28)
  replace hm := ite_no hm h28p
  refine W.sr fun K83 hK83 => ?_
  refine zE 2 (hK83 _ _ ?_)
  refine W.ret (ret_seq ?_)
  obtain rfl := some_inj hm
  refine ret_of (zi r19.1) (by kernel_rfl) ⟨_, ⟨rfl, rfl⟩, hs25⟩
 have h10p : ¬ (r3.2 = 0) := of_decide_eq_false (bnot_true h10)
 replace hm := ite_no hm h10p
 refine zS 18 h10 ?_
 refine zS 17 h10 ?_
 refine zE 3 (hK9 _ _ ?_)
 refine W.cond_true true (by kernel_rfl) rfl ?_
 refine W.sr fun K84 hK84 => ?_
 refine zE 2 (hK84 _ _ ?_)
 refine W.ret (ret_seq ?_)
 obtain rfl := some_inj hm
 refine ret_of (zi r3.2) (by kernel_rfl) ⟨_, ⟨rfl, rfl⟩, hs7⟩
end Go.Proofs.YtmmclabkkigiaaaGreatDoor

namespace Go.Proofs.YtmmclabkkigiaaaGreatDoor
open Go Go.RowKit
section
variable {img : List Int} {l : List (Int × Int)} {at_ many : Int}
def VI (img : List Int) (l : List (Int × Int)) : Prop := VR img l ∧ l.length ≤ 96
theorem VI.nil (h : ∀ x ∈ img, U64 x) : VI img [] := ⟨VR.nil h, by simp⟩
theorem VI.vput {a x : Int} (h : VI img l) (hx : U64 x) : VI img (vput img l a x).2 := by
  unfold Go.Proofs.YtmmclabkkigiaaaGreatDoor.vput
  split
  · rename_i ha
    cases hl : vlook l a with
    | some y =>
      simp only
      exact ⟨h.1.put ha hx, by rw [vset_length_some (by rw [hl]; rfl)]; exact h.2⟩
    | none =>
      simp only
      split
      · exact h
      · refine ⟨h.1.put ha hx, ?_⟩
        rw [vset_none hl]
        simp
        omega
  · exact h
theorem VI.mset {i_ : Int} {is_ : Bool} (h : VI img l) : VI img (msetF img l at_ many i_ is_).2 := by
  unfold msetF
  split
  · exact h.vput (setb_u64 (h.1 _) (by omega))
  · exact h
def clearF (img : List Int) : List (Int × Int) → List Int → Int × List (Int × Int)
  | l, [] => (0, l)
  | l, n :: ns => if (vput img l n 0).1 = 0 then clearF img (vput img l n 0).2 ns else vput img l n 0
theorem VI.clear : ∀ {ns : List Int} {l : List (Int × Int)}, VI img l → VI img (clearF img l ns).2
  | [], _, h => h
  | n :: ns, l, h => by
    unfold clearF
    split
    · exact VI.clear (h.vput u64_zero)
    · exact h.vput u64_zero
theorem aclear_ok (ns : List Int) (hl : ns.length ≤ 1000000) : aclear_M img l ns = some (clearF img l ns) := by
  unfold aclear_M
  refine iter_run (fun s => 0 ≤ s.2 ∧ s.2 ≤ (ns.length : Int) ∧ clearF img s.1 (ns.drop s.2.toNat) = clearF img l ns) (fun s => ((ns.length : Int) - s.2).toNat) ?_ _ _ ⟨by simp, by simp, rfl⟩ (fuel_lt (by simp only; omega))
  rintro k ⟨m, p⟩ ⟨h1, h2, h3⟩ ih
  simp only at h1 h2 h3 ih
  unfold aclear_B0
  simp only
  by_cases h : p < (ns.length : Int)
  · have hlt : p.toNat < ns.length := by omega
    have e : ns.drop p.toNat = ns.getD p.toNat 0 :: ns.drop (p + 1).toNat := by
      rw [List.drop_eq_getElem_cons hlt, show (p + 1).toNat = p.toNat + 1 by omega]
      simp [hlt]
    rw [e, clearF] at h3
    rw [if_pos h]
    refine need_of ⟨h1, h⟩ (bind_of rfl ?_)
    by_cases h0 : (vput img m (ns.getD p.toNat 0) 0).1 = 0
    · rw [if_pos h0] at h3 ⊢
      exact need_of (by omega) (ih _ ⟨by simp only; omega, by simp only; omega, h3⟩ (by simp only; omega))
    · rw [if_neg h0] at h3 ⊢
      rw [← h3]
  · rw [if_neg h, ← h3, List.drop_of_length_le (by omega)]
    rfl
def ownL (p : Int) : List Int := [p + 0, p + 1, p + 2, p + 3, p + 4, p + 5, p + 6, p + 7]
def takeBF (img : List Int) (l : List (Int × Int)) (gw gi gb at_ : Int) : Int × Int × List (Int × Int) :=
  if (lst (mbits img l at_) gb.toNat).2 = true then
    if (msetF img l at_ gb (lst (mbits img l at_) gb.toNat).1 true).1 = 0 then
      if (clearF img (msetF img l at_ gb (lst (mbits img l at_) gb.toNat).1 true).2 (ownL (placeOf 9 gw gi gb (lst (mbits img l at_) gb.toNat).1))).1 = 0 then
        ((lst (mbits img l at_) gb.toNat).1, 0, (clearF img (msetF img l at_ gb (lst (mbits img l at_) gb.toNat).1 true).2 (ownL (placeOf 9 gw gi gb (lst (mbits img l at_) gb.toNat).1))).2)
      else (0, clearF img (msetF img l at_ gb (lst (mbits img l at_) gb.toNat).1 true).2 (ownL (placeOf 9 gw gi gb (lst (mbits img l at_) gb.toNat).1)))
    else (0, (msetF img l at_ gb (lst (mbits img l at_) gb.toNat).1 true).1, (msetF img l at_ gb (lst (mbits img l at_) gb.toNat).1 true).2)
  else (0, 7, l)
def giveF (img : List Int) (l : List (Int × Int)) (at_ many n_ : Int) : Int × List (Int × Int) :=
  if 1 ≤ n_ ∧ n_ < many then (if mbits img l at_ n_.toNat = true then msetF img l at_ many n_ false else (3, l)) else (1, l)
theorem VI.takeB {gw gi gb : Int} (h : VI img l) : VI img (takeBF img l gw gi gb at_).2.2 := by
  unfold takeBF
  split
  · split
    · split <;> exact VI.clear h.mset
    · exact h.mset
  · exact h
theorem VI.give {n_ : Int} (h : VI img l) : VI img (giveF img l at_ many n_).2 := by
  unfold giveF
  split
  · split
    · exact h.mset
    · exact h
  · exact h
theorem place9 (gw gi gb n : Int) : -1 ≤ placeOf 9 gw gi gb n ∧ placeOf 9 gw gi gb n ≤ 7000 := by
  unfold placeOf
  split
  · rename_i h
    have h_ := may_out h
    simp only
    split <;> omega
  · omega
theorem atakeb_ok {gw gi gb : Int} (hv : VR img l) (ha : 0 ≤ at_ ∧ at_ ≤ 1000000000000) (hm : 1 ≤ gb ∧ gb ≤ 1000000000000) : atakeb_M img l gw gi gb at_ = some (takeBF img l gw gi gb at_) := by
  unfold atakeb_M atake1_M
  have key : ((mclear_M img l at_ gb).bind fun r6 => if r6.2 = true then ((mset_M img l at_ gb r6.1 true).bind fun r15 => if r15.1 = 0 then (atake1_J2 img gw gi gb r6 r15 true) else (atake1_J2 img gw gi gb r6 r15 false)) else (some (0, 7, l))) = some (takeBF img l gw gi gb at_) := by
    refine bind_of (mclear_ok hv ha hm) ?_
    unfold takeBF
    split
    · refine bind_of (mset_ok hv ha hm.2) ?_
      split
      · rename_i h0
        unfold atake1_J2
        rw [if_pos rfl]
        have hp := place9 gw gi gb (lst (mbits img l at_) gb.toNat).1
        refine need_of (by omega) (bind_of (aclear_ok _ (by simp)) ?_)
        unfold atake1_J1
        change (if (clearF _ _ (ownL _)).1 = 0 then _ else _) = _
        split <;> rfl
      · rename_i h0
        unfold atake1_J2
        rw [if_neg (by decide)]
        unfold atake1_J1
        rw [if_neg h0]
    · rfl
  exact bind_of key rfl
theorem agive_ok {n_ : Int} (hv : VR img l) (ha : 0 ≤ at_ ∧ at_ ≤ 1000000000000) (hm : many ≤ 1000000000000) : pgive_M img l at_ many many n_ = some (giveF img l at_ many n_) := by
  have j1f : ∀ h : 1 ≤ n_ ∧ n_ < many, pgive_J1 img l at_ many n_ false = some (giveF img l at_ many n_) := by
    intro h
    unfold pgive_J1 giveF
    rw [if_neg (by decide), if_pos h]
    refine bind_of (mget_ok hv ha hm) ?_
    rw [decide_eq_true (by omega), Bool.true_and]
    split
    · exact bind_of (mset_ok hv ha hm) rfl
    · rfl
  have j1t : ∀ h : ¬ (1 ≤ n_ ∧ n_ < many), pgive_J1 img l at_ many n_ true = some (giveF img l at_ many n_) := by
    intro h
    unfold pgive_J1 giveF
    rw [if_pos rfl, if_neg h]
  unfold pgive_M
  by_cases h1 : n_ < 1
  · rw [if_pos h1, decide_eq_true h1]; exact j1t (by omega)
  · rw [if_neg h1]
    by_cases h2 : n_ ≥ many
    · rw [decide_eq_true h2]; exact j1t (by omega)
    · rw [decide_eq_false h2]; exact j1f (by omega)
def freeF (img : List Int) (l : List (Int × Int)) (gi gb ia ba : Int) : Int × Int := (gi - (cnt (mbits img l ia) gi.toNat : Nat), gb - (cnt (mbits img l ba) gb.toNat : Nat))
theorem afree_ok {gi gb ia ba : Int} (hv : VR img l) (h1 : 0 ≤ ia ∧ ia ≤ 1000000000000) (h2 : 0 ≤ ba ∧ ba ≤ 1000000000000) (h3 : 1 ≤ gi ∧ gi ≤ 1000000000000) (h4 : 1 ≤ gb ∧ gb ≤ 1000000000000) : afree_M img l gi gb ia ba = some (freeF img l gi gb ia ba) := by
  have c1 := cnt_le (mbits img l ia) gi.toNat
  have c2 := cnt_le (mbits img l ba) gb.toNat
  have k1 : pfree_M img l ia gi gi = some (gi - (cnt (mbits img l ia) gi.toNat : Nat)) := by
    unfold pfree_M
    exact bind_of (mcount_ok hv h1 h3) (need_of (by omega) rfl)
  have k2 : pfree_M img l ba gb gb = some (gb - (cnt (mbits img l ba) gb.toNat : Nat)) := by
    unfold pfree_M
    exact bind_of (mcount_ok hv h2 h4) (need_of (by omega) rfl)
  unfold afree_M
  exact bind_of k1 (bind_of k2 rfl)
end
end Go.Proofs.YtmmclabkkigiaaaGreatDoor

namespace Go.Proofs.YtmmclabkkigiaaaGreatDoor
open Go Go.RowKit
section
variable {img : List Int} {l : List (Int × Int)} {at_ many : Int}
theorem rmget_ok {i_ : Int} (hv : VR img l) (ha : 0 ≤ at_ ∧ at_ ≤ 1000000000000) (hm : many ≤ 1000000000000) :
    rmget_M img l at_ many i_ = some (decide (0 ≤ i_ ∧ i_ < many) && mbits img l at_ i_.toNat) := by
  unfold rmget_M
  by_cases h : 0 ≤ i_
  · rw [if_pos h]
    by_cases h2 : i_ < many
    · rw [if_pos h2, Int.tdiv_eq_ediv_of_nonneg h, Int.tmod_eq_emod_of_nonneg h]
      refine need_of (by omega) (need_of (by omega) (need_of (by omega) (need_of (by omega) ?_)))
      rw [shr_tmod (hv _) (by omega), show decide (0 ≤ i_ ∧ i_ < many) = true from decide_eq_true ⟨h, h2⟩, Bool.true_and]
      unfold mbits
      rw [show at_ + ((i_.toNat / 64 : Nat) : Int) = at_ + i_ / 64 by omega, show i_.toNat % 64 = (i_ % 64).toNat by omega]
      cases bitI (vget img l (at_ + i_ / 64)) (i_ % 64).toNat <;> rfl
    · rw [if_neg h2, decide_eq_false (fun q => h2 q.2), Bool.false_and]
  · rw [if_neg h, decide_eq_false (fun q => h q.1), Bool.false_and]
theorem setb_same {v : Int} {j : Nat} (hv : U64 v) (hj : j < 64) : setb v j (bitI v j) = v := by
  refine bitI_ext (setb_u64 hv hj) hv fun t ht => ?_
  rw [bitI_setb hv hj]
  split
  · rename_i e; rw [e]
  · rfl
theorem setb_flip {v : Int} {j : Nat} {b : Bool} (hv : U64 v) (hj : j < 64) (h : ¬ (b = true ↔ bitI v j = true)) : bits .xor .u64 v (2 ^ j) = setb v j b := by
  refine bitI_ext (bits_u64 hv (pow_u64 hj)) (setb_u64 hv hj) fun t ht => ?_
  rw [bitI_setb hv hj, bitI_xor hv (pow_u64 hj), bitI_pow]
  by_cases e : t = j
  · subst e
    rw [if_pos rfl]
    cases b <;> cases hb : bitI v t <;> simp_all
  · rw [if_neg e]; simp [show ¬ j = t from fun q => e q.symm]
theorem rmset_ok {i_ : Int} {is_ : Bool} (hv : VR img l) (ha : 0 ≤ at_ ∧ at_ ≤ 1000000000000) (hm : many ≤ 1000000000000) :
    rmset_M img l at_ many i_ is_ = some (msetF img l at_ many i_ is_) := by
  unfold rmset_M msetF
  by_cases h : 0 ≤ i_
  · rw [if_neg (by omega)]
    by_cases h2 : i_ < many
    · rw [if_neg (by omega), if_pos ⟨h, h2⟩, Int.tdiv_eq_ediv_of_nonneg h, Int.tmod_eq_emod_of_nonneg h]
      refine need_of (by omega) (need_of (by omega) (need_of (by omega) (need_of (by omega) (bind_of rfl ?_))))
      refine bind_of (rmget_ok hv ha hm) ?_
      rw [decide_eq_true ⟨h, h2⟩, Bool.true_and, shl_one (by omega)]
      have e : mbits img l at_ i_.toNat = bitI (vget img l (at_ + i_ / 64)) (i_ % 64).toNat := by
        unfold mbits
        rw [show at_ + ((i_.toNat / 64 : Nat) : Int) = at_ + i_ / 64 by omega, show i_.toNat % 64 = (i_ % 64).toNat by omega]
      rw [e]
      have j1 : ∀ x, rmset_J1 img l at_ i_ x = some (vput img l (at_ + i_ / 64) x) := by
        intro x
        unfold rmset_J1
        rw [Int.tdiv_eq_ediv_of_nonneg h]
        exact need_of (by omega) (need_of (by omega) (bind_of rfl rfl))
      by_cases h3 : is_ = true ↔ bitI (vget img l (at_ + i_ / 64)) (i_ % 64).toNat = true
      · rw [if_pos h3, j1]
        have e2 : is_ = bitI (vget img l (at_ + i_ / 64)) (i_ % 64).toNat := Bool.eq_iff_iff.2 h3
        rw [e2, setb_same (hv _) (by omega)]
      · rw [if_neg h3]
        refine bind_of rfl ?_
        rw [j1, setb_flip (hv _) (by omega) h3]
    · rw [if_pos (by omega), if_neg (fun q => h2 q.2)]
  · rw [if_pos (by omega), if_neg (fun q => h q.1)]
theorem rmclear_ok (hv : VR img l) (ha : 0 ≤ at_ ∧ at_ ≤ 1000000000000) (hm : 0 ≤ many ∧ many ≤ 1000000000000) :
    rmclear_M img l at_ many = some (lst (mbits img l at_) many.toNat) := by
  unfold rmclear_M
  refine iter_run (fun s => 0 ≤ s ∧ s ≤ many ∧ ∀ j, j < s.toNat → mbits img l at_ j = true) (fun s => (many - s).toNat) ?_ _ _ ⟨by omega, by omega, fun j hj => absurd hj (by simp)⟩ (fuel_lt (by omega))
  rintro k s ⟨h1, h2, h3⟩ ih
  unfold rmclear_B0
  by_cases h : s < many
  · rw [if_pos h]
    refine bind_of (rmget_ok hv ha hm.2) ?_
    rw [decide_eq_true ⟨h1, h⟩, Bool.true_and]
    by_cases hb : mbits img l at_ s.toNat = true
    · rw [if_pos hb]
      refine need_of (by omega) (ih _ ⟨by omega, by omega, fun j hj => ?_⟩ (by omega))
      by_cases e : j = s.toNat
      · rw [e]; exact hb
      · exact h3 j (by omega)
    · rw [if_neg hb, lst_at (i := s.toNat) (by omega) (by simpa using hb) h3]
      congr 2
      omega
  · rw [if_neg h, lst_full fun j hj => h3 j (by omega)]
theorem rmcount_ok (hv : VR img l) (ha : 0 ≤ at_ ∧ at_ ≤ 1000000000000) (hm : 0 ≤ many ∧ many ≤ 1000000000000) :
    rmcount_M img l at_ many = some ((cnt (mbits img l at_) many.toNat : Nat) : Int) := by
  unfold rmcount_M
  refine iter_run (fun s => 0 ≤ s.2 ∧ s.2 ≤ many ∧ s.1 = ((cnt (mbits img l at_) s.2.toNat : Nat) : Int)) (fun s => (many - s.2).toNat) ?_ _ _ ⟨by simp, hm.1, rfl⟩ (fuel_lt (by simp only; omega))
  rintro k ⟨c, s⟩ ⟨h1, h2, h3⟩ ih
  simp only at h1 h2 h3 ih
  unfold rmcount_B0
  simp only
  have hle := cnt_le (mbits img l at_) s.toNat
  by_cases h : s < many
  · rw [if_pos h]
    refine bind_of (rmget_ok hv ha hm.2) ?_
    rw [decide_eq_true ⟨h1, h⟩, Bool.true_and]
    have e : cnt (mbits img l at_) (s + 1).toNat = cnt (mbits img l at_) s.toNat + (if mbits img l at_ s.toNat = true then 1 else 0) := by
      rw [show (s + 1).toNat = s.toNat + 1 by omega]; rfl
    by_cases hb : mbits img l at_ s.toNat = true
    · rw [if_pos hb] at e ⊢
      exact need_of (by omega) (need_of (by omega) (ih _ ⟨by simp only; omega, by simp only; omega, by simp only; omega⟩ (by simp only; omega)))
    · rw [if_neg hb] at e ⊢
      exact need_of (by omega) (ih _ ⟨by simp only; omega, by simp only; omega, by simp only; omega⟩ (by simp only; omega))
  · rw [if_neg h, h3, show s = many by omega]
theorem rtakeb_ok {gw gi gb : Int} (hv : VR img l) (ha : 0 ≤ at_ ∧ at_ ≤ 1000000000000) (hm : 1 ≤ gb ∧ gb ≤ 1000000000000) : rtakeb_M img l gw gi gb at_ = some (takeBF img l gw gi gb at_) := by
  unfold rtakeb_M
  refine bind_of (rmclear_ok hv ha (by omega)) ?_
  unfold takeBF
  split
  · refine bind_of (rmset_ok hv ha hm.2) ?_
    generalize lst (mbits img l at_) gb.toNat = r
    generalize msetF img l at_ gb r.1 true = q
    have hp := place9 gw gi gb r.1
    generalize hpl : placeOf 9 gw gi gb r.1 = p at hp
    obtain ⟨res, hres⟩ : ∃ res : Int × List (Int × Int), res = if q.1 = 0 then clearF img q.2 (ownL p) else q := ⟨_, rfl⟩
    have hgoal : (if q.1 = 0 then (if (clearF img q.2 (ownL p)).1 = 0 then (r.1, (0 : Int), (clearF img q.2 (ownL p)).2) else (0, clearF img q.2 (ownL p))) else (0, q.1, q.2)) = if res.1 = 0 then (r.1, 0, res.2) else (0, res.1, res.2) := by
      rw [hres]
      by_cases h0 : q.1 = 0
      · rw [if_pos h0, if_pos h0]
      · rw [if_neg h0, if_neg h0, if_neg h0]
    rw [hgoal]
    have hlen : (ownL p).length = 8 := rfl
    refine iter_run (fun s => 0 ≤ s.2.2 ∧ s.2.2 ≤ 8 ∧ res = if s.2.1 = 0 then clearF img s.1 ((ownL p).drop s.2.2.toNat) else (s.2.1, s.1)) (fun s => (8 - s.2.2).toNat) ?_ _ _ ⟨by simp, by simp, by simpa using hres⟩ (fuel_lt (by simp only; omega))
    rintro k ⟨m, e, i⟩ ⟨h1, h2, h3⟩ ih
    simp only at h1 h2 h3 ih
    unfold rtakeb_B0
    simp only
    have j1 : (e = 0 → i = 8) → rtakeb_J1 r e m = some (if res.1 = 0 then (r.1, 0, res.2) else (0, res.1, res.2)) := by
      intro hq
      unfold rtakeb_J1
      by_cases h0 : e = 0
      · have hi := hq h0
        subst hi
        rw [if_pos h0] at h3
        have h4 : res = (0, m) := h3
        rw [if_pos h0, h4]
        rfl
      · rw [if_neg h0] at h3
        rw [if_neg h0, h3, if_neg h0]
    by_cases hi : i < 8
    · rw [if_pos hi]
      by_cases h0 : e = 0
      · rw [if_pos h0] at h3 ⊢
        have hg : (ownL p).drop i.toNat = (p + i) :: (ownL p).drop (i + 1).toNat := by
          have hlt : i.toNat < (ownL p).length := by rw [hlen]; omega
          rw [List.drop_eq_getElem_cons hlt, show (i + 1).toNat = i.toNat + 1 by omega]
          congr 1
          have : i = 0 ∨ i = 1 ∨ i = 2 ∨ i = 3 ∨ i = 4 ∨ i = 5 ∨ i = 6 ∨ i = 7 := by omega
          rcases this with rfl | rfl | rfl | rfl | rfl | rfl | rfl | rfl <;> rfl
        rw [hg, clearF] at h3
        rw [hpl]
        refine need_of (by omega) (bind_of rfl (need_of (by omega) (ih _ ⟨by simp only; omega, by simp only; omega, ?_⟩ (by simp only; omega))))
        simp only
        rw [h3]
      · rw [if_neg h0]
        exact j1 fun q => absurd q h0
    · rw [if_neg hi]
      exact j1 fun _ => by omega
  · rfl
theorem rgive_ok {n_ : Int} (hv : VR img l) (ha : 0 ≤ at_ ∧ at_ ≤ 1000000000000) (hm : many ≤ 1000000000000) : rgive_M img l at_ many n_ = some (giveF img l at_ many n_) := by
  unfold rgive_M giveF
  by_cases h1 : n_ < 1
  · rw [if_pos h1, if_neg (by omega)]
  · rw [if_neg h1]
    by_cases h2 : n_ ≥ many
    · rw [if_pos h2, if_neg (by omega)]
    · rw [if_neg h2, if_pos (by omega)]
      refine bind_of (rmget_ok hv ha hm) ?_
      rw [decide_eq_true (by omega), Bool.true_and]
      split
      · exact bind_of (rmset_ok hv ha hm) rfl
      · rfl
theorem rfree_ok {gi gb ia ba : Int} (hv : VR img l) (h1 : 0 ≤ ia ∧ ia ≤ 1000000000000) (h2 : 0 ≤ ba ∧ ba ≤ 1000000000000) (h3 : 1 ≤ gi ∧ gi ≤ 1000000000000) (h4 : 1 ≤ gb ∧ gb ≤ 1000000000000) : rfree_M img l gi gb ia ba = some (freeF img l gi gb ia ba) := by
  have c1 := cnt_le (mbits img l ia) gi.toNat
  have c2 := cnt_le (mbits img l ba) gb.toNat
  unfold rfree_M
  exact bind_of (rmcount_ok hv h1 (by omega)) (need_of (by omega) (bind_of (rmcount_ok hv h2 (by omega)) (need_of (by omega) rfl)))
end
end Go.Proofs.YtmmclabkkigiaaaGreatDoor

namespace Go.Proofs.YtmmclabkkigiaaaGreatDoor
open Go Go.RowKit
theorem VI.vwrite {img : List Int} {l : List (Int × Int)} {a x : Int} (h : VI img l) (hx : U64 x) : VI img (vwrite img l a x).2 := by
  unfold Go.Proofs.YtmmclabkkigiaaaGreatDoor.vwrite
  split
  · exact h
  · split
    · exact h
    · exact h.vput hx
theorem vget_vput {img : List Int} {l : List (Int × Int)} {a x z : Int} (hz : z ≠ a) : vget img (vput img l a x).2 z = vget img l z := by
  unfold vput
  split
  · rename_i ha
    cases vlook l a with
    | some y => simp only; rw [vget_vset ha, if_neg hz]
    | none =>
      simp only
      split
      · rfl
      · simp only; rw [vget_vset ha, if_neg hz]
  · rfl
theorem vget_vwrite {img : List Int} {l : List (Int × Int)} {a x z : Int} (hz : z ≠ a) : vget img (vwrite img l a x).2 z = vget img l z := by
  unfold vwrite
  split
  · rfl
  · split
    · rfl
    · exact vget_vput hz
theorem vwrite_got {img : List Int} {l : List (Int × Int)} {a x : Int} (h0 : (vwrite img l a x).1 = 0) : vget img (vwrite img l a x).2 a = x := by
  unfold vwrite at h0 ⊢
  split at h0
  · cases h0
  · rename_i ha
    rw [if_neg ha]
    have hin : 0 ≤ a ∧ a < (img.length : Int) := by omega
    split at h0
    · rename_i e; rw [if_pos e]; exact e
    · rename_i e
      rw [if_neg e]
      unfold vput at h0 ⊢
      rw [if_pos hin] at h0 ⊢
      cases hl : vlook l a with
      | some y => simp only; rw [vget_vset hin, if_pos rfl]
      | none =>
        rw [hl] at h0
        simp only at h0 ⊢
        split at h0
        · cases h0
        · rename_i h96
          rw [if_neg h96]
          simp only
          rw [vget_vset hin, if_pos rfl]
theorem vget_mset {img : List Int} {l : List (Int × Int)} {at_ many i_ z : Int} {is_ : Bool} (hz : z ≠ at_ + i_ / 64) : vget img (msetF img l at_ many i_ is_).2 z = vget img l z := by
  unfold msetF
  split
  · exact vget_vput hz
  · rfl
section
variable {gw gi gb n k : Int} {img : List Int} {l : List (Int × Int)}
theorem takeB_range (hg : 1 ≤ gb) (at_ : Int) : 0 ≤ (takeBF img l gw gi gb at_).1 ∧ (takeBF img l gw gi gb at_).1 < gb := by
  unfold takeBF
  rcases lst_cases (mbits img l at_) gb.toNat with ⟨i, h1, _, _, h4⟩ | ⟨_, h4⟩
  · rw [h4]
    simp only
    split
    · split
      · split
        · simp only; omega
        · simp only; omega
      · simp only; omega
    · simp only; omega
  · rw [h4]
    simp only
    simp only [Bool.false_eq_true, if_false]
    omega
structure Gt (gw gi gb : Int) (img : List Int) (l : List (Int × Int)) (n : Int) : Prop where
  may : May gw gi gb
  fit : wordsOf gw gi gb ≤ (img.length : Int)
  len : img.length ≤ 6232
  nr : 0 < n ∧ n < gi
  vi : VI img l
  ch : vget img l (288 + 208 * gw + 16 * n) < gb
theorem gt_of (hv : VI img l) (hl : img.length ≤ 6232) (h : (igetM img l gw gi gb n).2 = 0) : Gt gw gi gb img l n := by
  unfold igetM at h
  split at h
  · rename_i h0
    have hr := ifind_range img.length gw gi gb n
    split at h
    · rename_i hR
      rcases place8_cases gw gi gb n with ⟨e, _⟩ | ⟨hM, hn, e⟩
      · unfold ifind at h0
        rw [e, if_pos (by omega)] at h0
        cases h0
      · have e1 := hr.2.2 h0
        have hfit : wordsOf gw gi gb ≤ (img.length : Int) ∧ n ≠ 0 := by
          unfold ifind at h0
          split at h0
          · cases h0
          · rename_i q
            split at h0
            · cases h0
            · omega
        refine ⟨hM, hfit.1, hl, by omega, hv, ?_⟩
        have := hR.2.1.2.2.2.2.1
        rw [e1, e] at this
        have e3 : (ndAt img l (280 + 208 * gw + 16 * n)).e = vget img l (280 + 208 * gw + 16 * n + 8) := rfl
        rw [e3, show 280 + 208 * gw + 16 * n + 8 = 288 + 208 * gw + 16 * n by omega] at this
        exact this
    · cases h
  · rename_i h0
    exact absurd h h0
def wordF (img : List Int) (l : List (Int × Int)) (gw gi gb n k : Int) : Int × Bool :=
  if k < 4 then (284 + 208 * gw + 16 * n + k, true) else (276 + 208 * gw + 16 * gi + 8 * vget img l (288 + 208 * gw + 16 * n) + k, !decide (vget img l (288 + 208 * gw + 16 * n) = 0))
theorem place9_at {b : Int} (hM : May gw gi gb) (hb : 0 ≤ b ∧ b < gb) : placeOf 9 gw gi gb b = 280 + 208 * gw + 16 * gi + 8 * b := by simp [placeOf, hM, hb]
theorem Gt.gplace (h : Gt gw gi gb img l n) : placeOf 8 gw gi gb n = 280 + 208 * gw + 16 * n := place8_in h.may (by have := h.nr; omega)
theorem Gt.gchain (h : Gt gw gi gb img l n) : 0 ≤ vget img l (288 + 208 * gw + 16 * n) := (h.vi.1 _).1
theorem Gt.bown (h : Gt gw gi gb img l n) {w : Int} (hw : 0 ≤ w ∧ w ≤ 100) : bown_M gw gi gb n w = some (280 + 208 * gw + 16 * n + w) := by
  have hg := may_out h.may
  have hn := h.nr
  unfold bown_M
  rw [h.gplace]
  exact bind_of rfl (need_of (by omega) rfl)
theorem Gt.bchain (h : Gt gw gi gb img l n) : bchain_M img l gw gi gb n = some (vget img l (288 + 208 * gw + 16 * n)) := by
  have hg := may_out h.may
  have hc := h.ch
  have hc0 := h.gchain
  unfold bchain_M
  refine bind_of (h.bown (by omega)) ?_
  rw [show 280 + 208 * gw + 16 * n + 8 = 288 + 208 * gw + 16 * n by omega]
  exact need_of (by omega) rfl
theorem Gt.bword (h : Gt gw gi gb img l n) (hk : 0 ≤ k ∧ k < 12) : bword_M img l gw gi gb n k = some (wordF img l gw gi gb n k) := by
  have hg := may_out h.may
  have hn := h.nr
  have hc := h.ch
  have hc0 := h.gchain
  unfold bword_M wordF
  by_cases h4 : k < 4
  · rw [if_neg (by omega), if_pos h4]
    unfold bdirect_M
    refine bind_of (y := (284 + 208 * gw + 16 * n + k, true)) (need_of (by omega) (bind_of (h.bown (by omega)) ?_)) rfl
    congr 2
    omega
  · rw [if_pos (by omega), if_neg h4]
    unfold bchained_M
    refine bind_of (y := (276 + 208 * gw + 16 * gi + 8 * vget img l (288 + 208 * gw + 16 * n) + k, !decide (vget img l (288 + 208 * gw + 16 * n) = 0))) (bind_of h.bchain ?_) rfl
    rw [place9_at h.may ⟨hc0, hc⟩]
    refine need_of (by omega) (need_of (by omega) (bind_of rfl ?_))
    congr 2
    omega
theorem Gt.wordIn (h : Gt gw gi gb img l n) (hk : 0 ≤ k ∧ k < 12) : 280 + 208 * gw ≤ (wordF img l gw gi gb n k).1 ∧ (wordF img l gw gi gb n k).1 ≠ 288 + 208 * gw + 16 * n := by
  have hg := may_out h.may
  have hn := h.nr
  have hc := h.ch
  have hc0 := h.gchain
  unfold wordF
  split
  · simp only; omega
  · simp only; omega
theorem Gt.rword (h : Gt gw gi gb img l n) (hk : 0 ≤ k ∧ k < 12) : rword13_M img l gw gi gb n k = some (if (wordF img l gw gi gb n k).2 = true then (wordF img l gw gi gb n k).1 else -1) := by
  have hg := may_out h.may
  have hn := h.nr
  have hc := h.ch
  have hc0 := h.gchain
  unfold rword13_M wordF
  rw [h.gplace]
  refine bind_of rfl ?_
  by_cases h4 : k < 4
  · simp only [if_pos h4]
    refine need_of (by omega) (need_of (by omega) ?_)
    simp only [if_true]
    congr 1
    omega
  · simp only [if_neg h4]
    refine need_of (by omega) ?_
    rw [show 280 + 208 * gw + 16 * n + 8 = 288 + 208 * gw + 16 * n by omega]
    by_cases h0 : vget img l (288 + 208 * gw + 16 * n) = 0
    · rw [if_pos h0, h0]
      rfl
    · rw [if_neg h0, decide_eq_false h0, place9_at h.may ⟨hc0, hc⟩]
      refine need_of (by omega) (need_of (by omega) (need_of (by omega) (bind_of rfl ?_)))
      simp only [Bool.not_false, if_true]
      congr 1
      omega
theorem at_eq (hv : VI img l) (hl : img.length ≤ 6232) (hk : 0 ≤ k ∧ k < 12) : ∃ r : Int × Int, bat_M img l gw gi gb n k = some r ∧ rat13_M img l gw gi gb n k = some r ∧
    ((r.2 = (igetM img l gw gi gb n).2 ∧ (igetM img l gw gi gb n).2 ≠ 0 ∧ r.1 = 0) ∨ ((igetM img l gw gi gb n).2 = 0 ∧ (r.2 = 0 ∨ r.2 = 4) ∧ (0 ≤ r.1 ∧ r.1 < gb) ∧ (r.2 ≠ 0 → r.1 = 0) ∧ (r.1 ≠ 0 → (wordF img l gw gi gb n k).2 = true))) := by
  have e1 : bat_M img l gw gi gb n k = bat_J1 img l gw gi gb n k := by
    unfold bat_M
    rw [if_neg (by omega), if_neg (by omega)]
  have e2 : rat13_M img l gw gi gb n k = rat13_J1 img l gw gi gb n k (igetM img l gw gi gb n).2 := by
    unfold rat13_M
    rw [if_neg (by omega), if_neg (by omega)]
    rfl
  rw [e1, e2]
  unfold bat_J1 rat13_J1
  by_cases h0 : (igetM img l gw gi gb n).2 = 0
  · have g := gt_of hv hl h0
    have hg := may_out g.may
    have hin := g.wordIn hk
    have hu := hv.1 (wordF img l gw gi gb n k).1
    unfold U64 at hu
    rw [if_pos h0, g.rword hk]
    simp only [Option.bind]
    unfold bat_J2
    rw [if_pos h0, g.bword hk]
    simp only [Option.bind]
    by_cases hw : (wordF img l gw gi gb n k).2 = true
    · simp only [if_pos hw]
      by_cases hb : vget img l (wordF img l gw gi gb n k).1 ≥ gb
      · refine ⟨(0, 4), need_of (by omega) (if_pos hb), ?_, .inr ⟨h0, .inr rfl, by simp only; omega, fun _ => rfl, fun _ => hw⟩⟩
        rw [if_neg (by omega)]
        exact need_of (by omega) (if_pos hb)
      · refine ⟨(vget img l (wordF img l gw gi gb n k).1, 0), need_of (by omega) ((if_neg hb).trans (need_of (by omega) rfl)), ?_, .inr ⟨h0, .inl rfl, by simp only; omega, fun q => absurd rfl q, fun _ => hw⟩⟩
        rw [if_neg (by omega)]
        exact need_of (by omega) ((if_neg hb).trans (need_of (by omega) rfl))
    · rw [if_neg hw, if_neg hw, if_pos (by omega)]
      exact ⟨(0, 0), rfl, rfl, .inr ⟨h0, .inl rfl, by simp only; omega, fun _ => rfl, fun q => absurd rfl q⟩⟩
  · rw [if_neg h0]
    simp only [Option.bind]
    unfold bat_J2
    rw [if_neg h0]
    exact ⟨_, rfl, rfl, .inl ⟨rfl, h0, rfl⟩⟩
theorem need_eq (hv : VI img l) (hl : img.length ≤ 6232) (hk : 0 ≤ k ∧ k < 12) : ∃ r : Int, bneed_M img l gw gi gb n k = some r ∧ rneed13_M img l gw gi gb n k = some r := by
  obtain ⟨r, e1, e2, hr⟩ := at_eq (gw := gw) (gi := gi) (gb := gb) (n := n) hv hl hk
  unfold bneed_M rneed13_M
  rw [e1, e2]
  simp only [Option.bind]
  by_cases h2 : r.2 = 0
  · simp only [if_pos h2]
    by_cases h1 : r.1 = 0
    · simp only [if_pos h1]
      have h0 : (igetM img l gw gi gb n).2 = 0 := by
        rcases hr with ⟨a, b, _⟩ | ⟨a, _⟩
        · omega
        · exact a
      have g := gt_of hv hl h0
      have hin := g.wordIn hk
      have hg := may_out g.may
      rw [g.bword hk, g.rword hk]
      simp only
      by_cases hw : (wordF img l gw gi gb n k).2 = true
      · rw [if_pos hw, if_pos hw, if_neg (by omega)]
        exact ⟨1, rfl, rfl⟩
      · rw [if_neg hw, if_neg hw, if_pos (by omega)]
        exact ⟨2, rfl, rfl⟩
    · simp only [if_neg h1]
      exact ⟨0, rfl, rfl⟩
  · simp only [if_neg h2]
    exact ⟨0, rfl, rfl⟩
theorem tk_eq (hM : May gw gi gb) (hf : wordsOf gw gi gb ≤ (img.length : Int)) (hl : img.length ≤ 6232) (hv : VI img l) (at_ : Int) : ∃ r : Int × Int × List (Int × Int), btake_M img l gw gi gb at_ = some r ∧ rtaken13_M img l gw gi gb at_ = some r ∧ VI img r.2.2 ∧ (r.2.1 = 0 → (0 < r.1 ∧ r.1 < gb) ∧ vget img r.2.2 at_ = r.1) := by
  have hg := may_out hM
  have hT := takeB_range (gw := gw) (gi := gi) (img := img) (l := l) (show 1 ≤ gb by omega) (272 + 208 * gw)
  have hVT := hv.takeB (gw := gw) (gi := gi) (gb := gb) (at_ := 272 + 208 * gw)
  have e1 := atakeb_ok (gw := gw) (gi := gi) (gb := gb) hv.1 (show 0 ≤ 272 + 208 * gw ∧ 272 + 208 * gw ≤ 1000000000000 by omega) (by omega)
  have e2 := rtakeb_ok (gw := gw) (gi := gi) (gb := gb) hv.1 (show 0 ≤ 272 + 208 * gw ∧ 272 + 208 * gw ≤ 1000000000000 by omega) (by omega)
  have hP : May gw gi gb ∧ wordsOf gw gi gb ≤ (img.length : Int) := ⟨hM, hf⟩
  unfold btake_M rtaken13_M
  have hle : (img.length : Int) ≤ 1000000000000 := by omega
  simp only [need, if_pos hle, if_pos hP, place7 hM, e1, e2, Option.bind]
  unfold btake_J1 btake_J2
  generalize takeBF img l gw gi gb (272 + 208 * gw) = t at *
  have hw : VI img (vwrite img t.2.2 at_ t.1).2 := hVT.vwrite (by unfold U64; omega)
  by_cases h2 : t.2.1 = 0
  · simp only [if_pos h2]
    by_cases h1 : t.1 = 0
    · simp only [if_pos h1, h2]
      exact ⟨_, rfl, rfl, hVT, fun q => by cases q⟩
    · have hu : 0 ≤ t.1 ∧ t.1 ≤ 18446744073709551615 := by omega
      simp only [need, if_neg h1, if_pos h2, if_pos hu, Option.bind]
      by_cases h3 : (vwrite img t.2.2 at_ t.1).1 = 0
      · simp only [if_pos h3]
        exact ⟨_, rfl, rfl, hw, fun _ => ⟨by simp only; omega, vwrite_got h3⟩⟩
      · simp only [if_neg h3]
        exact ⟨_, rfl, rfl, hw, fun q => absurd q h3⟩
  · simp only [if_neg h2]
    exact ⟨_, rfl, rfl, hVT, fun q => absurd q h2⟩
theorem gv_eq (hM : May gw gi gb) (hf : wordsOf gw gi gb ≤ (img.length : Int)) (hl : img.length ≤ 6232) (hv : VI img l) (at_ b : Int) : ∃ r : Int × List (Int × Int), bgive_M img l gw gi gb at_ b = some r ∧ rgiven13_M img l gw gi gb at_ b = some r ∧ VI img r.2 ∧ (∀ z, 280 + 208 * gw ≤ z → z ≠ at_ → vget img r.2 z = vget img l z) := by
  have hg := may_out hM
  have e2 := rgive_ok (many := gb) (n_ := b) hv.1 (show 0 ≤ 272 + 208 * gw ∧ 272 + 208 * gw ≤ 1000000000000 by omega) (by omega)
  have e1 := agive_ok (many := gb) (n_ := b) hv.1 (show 0 ≤ 272 + 208 * gw ∧ 272 + 208 * gw ≤ 1000000000000 by omega) (by omega)
  have hVT := hv.give (at_ := 272 + 208 * gw) (many := gb) (n_ := b)
  have hP : May gw gi gb ∧ wordsOf gw gi gb ≤ (img.length : Int) := ⟨hM, hf⟩
  have a1 : agiveb_M img l gb (272 + 208 * gw) b = some (giveF img l (272 + 208 * gw) gb b) := by
    unfold agiveb_M
    exact bind_of e1 rfl
  have a2 : rgiveb_M img l gb (272 + 208 * gw) b = some (giveF img l (272 + 208 * gw) gb b) := by
    unfold rgiveb_M
    exact bind_of e2 rfl
  have hz : ∀ z, 280 + 208 * gw ≤ z → vget img (giveF img l (272 + 208 * gw) gb b).2 z = vget img l z := by
    intro z hz
    unfold giveF
    split
    · split
      · exact vget_mset (by omega)
      · rfl
    · rfl
  unfold bgive_M rgiven13_M
  have hle : (img.length : Int) ≤ 1000000000000 := by omega
  simp only [need, if_pos hle, if_pos hP, place7 hM, a1, a2, Option.bind]
  generalize giveF img l (272 + 208 * gw) gb b = t at *
  by_cases h1 : t.1 = 0
  · simp only [if_pos h1]
    exact ⟨_, rfl, rfl, hVT.vwrite u64_zero, fun z h1 h2 => (vget_vwrite h2).trans (hz z h1)⟩
  · simp only [if_neg h1]
    exact ⟨_, rfl, rfl, hVT, fun z h1 _ => hz z h1⟩
theorem take_eq (hv : VI img l) (hl : img.length ≤ 6232) (hk : 0 ≤ k ∧ k < 12) : ∃ r : Int × Int × List (Int × Int), bTake_M img l gw gi gb n k = some r ∧ rTake13_M img l gw gi gb n k = some r ∧ VI img r.2.2 := by
  obtain ⟨a, e1, e2, hr⟩ := at_eq (gw := gw) (gi := gi) (gb := gb) (n := n) hv hl hk
  unfold bTake_M rTake13_M
  rw [e1, e2]
  simp only [Option.bind]
  have done : ∃ r : Int × Int × List (Int × Int), bTake_J1 img l gw gi gb n k a true = some r ∧ rTake13_J1 img l gw gi gb n k a true = some r ∧ VI img r.2.2 := by
    unfold bTake_J1 rTake13_J1
    simp only [if_pos rfl]
    exact ⟨_, rfl, rfl, hv⟩
  by_cases h2 : a.2 = 0
  · simp only [if_pos h2]
    by_cases h1 : a.1 = 0
    · rw [decide_eq_true h1]
      simp only [Bool.not_true]
      have h0 : (igetM img l gw gi gb n).2 = 0 := by
        rcases hr with ⟨a, b, _⟩ | ⟨a, _⟩
        · omega
        · exact a
      have g := gt_of hv hl h0
      have hin := g.wordIn hk
      have hg := may_out g.may
      have hP : May gw gi gb ∧ wordsOf gw gi gb ≤ (img.length : Int) := ⟨g.may, g.fit⟩
      have f1 := afree_ok (gi := gi) (gb := gb) hv.1 (show 0 ≤ 264 + 208 * gw ∧ 264 + 208 * gw ≤ 1000000000000 by omega) (show 0 ≤ 272 + 208 * gw ∧ 272 + 208 * gw ≤ 1000000000000 by omega) (by omega) (by omega)
      have f2 := rfree_ok (gi := gi) (gb := gb) hv.1 (show 0 ≤ 264 + 208 * gw ∧ 264 + 208 * gw ≤ 1000000000000 by omega) (show 0 ≤ 272 + 208 * gw ∧ 272 + 208 * gw ≤ 1000000000000 by omega) (by omega) (by omega)
      obtain ⟨nd, n1, n2⟩ := need_eq (gw := gw) (gi := gi) (gb := gb) (n := n) hv hl hk
      unfold bTake_J1 rTake13_J1
      have hle : (img.length : Int) ≤ 1000000000000 := by omega
      simp only [need, Bool.false_eq_true, if_false, if_pos hle, if_pos hP, place6 g.may, place7 g.may, f1, f2, Option.bind, n1, n2]
      by_cases hfr : (freeF img l gi gb (264 + 208 * gw) (272 + 208 * gw)).2 < nd
      · simp only [if_pos hfr]
        exact ⟨_, rfl, rfl, hv⟩
      · rw [if_neg hfr, if_neg hfr, g.bword hk, g.rword hk]
        simp only
        by_cases hw : (wordF img l gw gi gb n k).2 = true
        · rw [if_pos hw, if_pos hw, if_neg (by omega)]
          obtain ⟨r, t1, t2, t3, _⟩ := tk_eq g.may g.fit hl hv (wordF img l gw gi gb n k).1
          unfold bTake_J2 rTake13_J2
          rw [t1, g.rword hk, if_pos hw]
          simp only [Option.bind]
          rw [t2]
          exact ⟨_, rfl, rfl, t3⟩
        · rw [if_neg hw, if_neg hw, if_pos (by omega), g.bown (by omega), g.gplace]
          simp only
          obtain ⟨r, t1, t2, t3, t4⟩ := tk_eq g.may g.fit hl hv (280 + 208 * gw + 16 * n + 8)
          have q8 : -9223372036854775808 ≤ 280 + 208 * gw + 16 * n + 8 ∧ 280 + 208 * gw + 16 * n + 8 ≤ 9223372036854775807 := by have := g.nr; omega
          simp only [if_pos q8, t1, t2]
          by_cases hr0 : r.2.1 = 0
          · simp only [if_pos hr0]
            obtain ⟨t5, t6⟩ := t4 hr0
            rw [show 280 + 208 * gw + 16 * n + 8 = 288 + 208 * gw + 16 * n by omega] at t6
            have g2 : Gt gw gi gb img r.2.2 n := ⟨g.may, g.fit, hl, g.nr, t3, by omega⟩
            have hw2 : (wordF img r.2.2 gw gi gb n k).2 = true := by
              unfold wordF
              split
              · rfl
              · simp only [t6]
                rw [decide_eq_false (by omega)]
                rfl
            obtain ⟨r2, s1, s2, s3, _⟩ := tk_eq g.may g.fit hl t3 (wordF img r.2.2 gw gi gb n k).1
            rw [g2.bword hk]
            unfold bTake_J2 rTake13_J2
            simp only
            rw [s1, g2.rword hk, if_pos hw2]
            simp only [Option.bind]
            rw [s2]
            exact ⟨_, rfl, rfl, s3⟩
          · simp only [if_neg hr0]
            exact ⟨_, rfl, rfl, t3⟩
    · rw [decide_eq_false h1]
      exact done
  · simp only [if_neg h2]
    exact done
theorem bare_eq (hv : VI img l) {c : Int} (hc : -1 ≤ placeOf 9 gw gi gb c ∧ placeOf 9 gw gi gb c ≤ 7000) {r19 : Int × List (Int × Int)} (h19 : r19.2 = l) {X : Int} {J : Int × List (Int × Int)} (hJ : rDrop13_J1 img gw gi gb r19 X c = some J) :
    (bbare_M img l gw gi gb c = some true ∧ iter (fun k_ s_ => rDrop13_B0 img gw gi gb r19 X c k_ s_) FUEL 0 = some J) ∨ (bbare_M img l gw gi gb c = some false ∧ iter (fun k_ s_ => rDrop13_B0 img gw gi gb r19 X c k_ s_) FUEL 0 = some (0, l)) := by
  by_cases hz : ∀ j : Nat, j < 8 → vget img l (placeOf 9 gw gi gb c + (j : Int)) = 0
  · left
    constructor
    · unfold bbare_M
      refine iter_run (fun p : Int => 0 ≤ p ∧ p ≤ 8) (fun p => (8 - p).toNat) ?_ _ _ (by omega) (fuel_lt (by omega))
      intro k p hp ih
      unfold bbare_B0
      by_cases h8 : p < 8
      · rw [if_pos h8]
        have := hz p.toNat (by omega)
        rw [show ((p.toNat : Nat) : Int) = p by omega] at this
        exact need_of (by omega) ((if_pos this).trans (need_of (by omega) (ih _ (by omega) (by omega))))
      · rw [if_neg h8]
    · refine iter_run (fun p : Int => 0 ≤ p ∧ p ≤ 8) (fun p => (8 - p).toNat) ?_ _ _ (by omega) (fuel_lt (by omega))
      intro k p hp ih
      unfold rDrop13_B0
      rw [h19]
      by_cases h8 : p < 8
      · rw [if_pos h8]
        have := hz p.toNat (by omega)
        rw [show ((p.toNat : Nat) : Int) = p by omega] at this
        exact need_of (by omega) ((if_pos this).trans (need_of (by omega) (ih _ (by omega) (by omega))))
      · rw [if_neg h8]
        exact hJ
  · right
    obtain ⟨j, hj, hne, hlow⟩ : ∃ j : Nat, j < 8 ∧ vget img l (placeOf 9 gw gi gb c + (j : Int)) ≠ 0 ∧ ∀ i : Nat, i < j → vget img l (placeOf 9 gw gi gb c + (i : Int)) = 0 := by
      have key : ∀ m : Nat, m ≤ 8 → (∀ j : Nat, j < m → vget img l (placeOf 9 gw gi gb c + (j : Int)) = 0) ∨ ∃ j : Nat, j < m ∧ vget img l (placeOf 9 gw gi gb c + (j : Int)) ≠ 0 ∧ ∀ i : Nat, i < j → vget img l (placeOf 9 gw gi gb c + (i : Int)) = 0 := by
        intro m
        induction m with
        | zero => exact fun _ => .inl fun j hj => absurd hj (Nat.not_lt_zero _)
        | succ m ih =>
          intro hm
          rcases ih (by omega) with h | ⟨j, h1, h2, h3⟩
          · by_cases e : vget img l (placeOf 9 gw gi gb c + (m : Int)) = 0
            · left
              intro j hj
              by_cases ej : j = m
              · rw [ej]; exact e
              · exact h j (by omega)
            · exact .inr ⟨m, by omega, e, h⟩
          · exact .inr ⟨j, by omega, h2, h3⟩
      rcases key 8 (Nat.le_refl _) with h | h
      · exact absurd h hz
      · exact h
    constructor
    · unfold bbare_M
      refine iter_run (fun p : Int => 0 ≤ p ∧ p ≤ (j : Int)) (fun p => (8 - p).toNat) ?_ _ _ (by omega) (fuel_lt (by omega))
      intro k p hp ih
      unfold bbare_B0
      rw [if_pos (by omega)]
      refine need_of (by omega) ?_
      by_cases e : p = (j : Int)
      · rw [e, if_neg hne]
      · have := hlow p.toNat (by omega)
        rw [show ((p.toNat : Nat) : Int) = p by omega] at this
        rw [if_pos this]
        exact need_of (by omega) (ih _ (by omega) (by omega))
    · refine iter_run (fun p : Int => 0 ≤ p ∧ p ≤ (j : Int)) (fun p => (8 - p).toNat) ?_ _ _ (by omega) (fuel_lt (by omega))
      intro k p hp ih
      unfold rDrop13_B0
      rw [h19, if_pos (by omega)]
      refine need_of (by omega) ?_
      by_cases e : p = (j : Int)
      · rw [e, if_neg hne]
      · have := hlow p.toNat (by omega)
        rw [show ((p.toNat : Nat) : Int) = p by omega] at this
        rw [if_pos this]
        exact need_of (by omega) (ih _ (by omega) (by omega))
theorem drop_eq (hv : VI img l) (hl : img.length ≤ 6232) (hk : 0 ≤ k ∧ k < 12) : ∃ r : Int × List (Int × Int), bDrop_M img l gw gi gb n k = some r ∧ rDrop13_M img l gw gi gb n k = some r ∧ VI img r.2 := by
  obtain ⟨a, e1, e2, hr⟩ := at_eq (gw := gw) (gi := gi) (gb := gb) (n := n) hv hl hk
  unfold bDrop_M rDrop13_M
  rw [e1, e2]
  simp only [Option.bind]
  by_cases h2 : a.2 = 0
  · simp only [if_pos h2]
    by_cases h1 : a.1 = 0
    · simp only [if_pos h1]
      exact ⟨_, rfl, rfl, hv⟩
    · simp only [if_neg h1]
      have h0 : (igetM img l gw gi gb n).2 = 0 ∧ (wordF img l gw gi gb n k).2 = true := by
        rcases hr with ⟨a, b, _⟩ | ⟨a, _, _, _, b⟩
        · omega
        · exact ⟨a, b h1⟩
      have g := gt_of hv hl h0.1
      have hin := g.wordIn hk
      have hg := may_out g.may
      have hn := g.nr
      rw [g.bword hk, g.rword hk, if_pos h0.2]
      simp only
      obtain ⟨r, t1, t2, t3, t4⟩ := gv_eq g.may g.fit hl hv (wordF img l gw gi gb n k).1 a.1
      rw [t1, t2]
      simp only
      by_cases hr0 : r.1 = 0
      · have hch : vget img r.2 (288 + 208 * gw + 16 * n) = vget img l (288 + 208 * gw + 16 * n) := t4 _ (by omega) (Ne.symm hin.2)
        have hc := g.ch
        have g2 : Gt gw gi gb img r.2 n := ⟨g.may, g.fit, hl, g.nr, t3, by omega⟩
        have hc2 := g2.ch
        have hc0 := g2.gchain
        rw [if_pos hr0, if_pos hr0, g2.bchain, g.gplace]
        simp only
        have q1 : -9223372036854775808 ≤ 280 + 208 * gw + 16 * n + 8 ∧ 280 + 208 * gw + 16 * n + 8 ≤ 9223372036854775807 := by omega
        rw [need, if_pos q1, show 280 + 208 * gw + 16 * n + 8 = 288 + 208 * gw + 16 * n by omega]
        generalize hcc : vget img r.2 (288 + 208 * gw + 16 * n) = c at *
        have q2 : -9223372036854775808 ≤ c ∧ c ≤ 9223372036854775807 := by omega
        simp only [need, if_pos q2, Option.bind]
        by_cases hz : c = 0
        · simp only [if_pos hz]
          unfold bDrop_J1
          rw [if_neg (by decide)]
          exact ⟨_, rfl, rfl, t3⟩
        · simp only [if_neg hz]
          obtain ⟨r2, s1, s2, s3, _⟩ := gv_eq g.may g.fit hl t3 (288 + 208 * gw + 16 * n) c
          have hJ : rDrop13_J1 img gw gi gb r (280 + 208 * gw + 16 * n) c = some (r2.1, r2.2) := by
            unfold rDrop13_J1
            rw [show 280 + 208 * gw + 16 * n + 8 = 288 + 208 * gw + 16 * n by omega, s2]
            rfl
          rcases bare_eq (gw := gw) (gi := gi) (gb := gb) t3 (place9 gw gi gb c) rfl hJ with ⟨b1, b2⟩ | ⟨b1, b2⟩
          · rw [b1, b2]
            simp only
            unfold bDrop_J1
            rw [if_pos rfl, g2.bown (by omega)]
            simp only [Option.bind]
            rw [show 280 + 208 * gw + 16 * n + 8 = 288 + 208 * gw + 16 * n by omega, s1]
            exact ⟨_, rfl, rfl, s3⟩
          · rw [b1, b2]
            simp only
            unfold bDrop_J1
            rw [if_neg (by decide)]
            exact ⟨_, rfl, rfl, t3⟩
      · simp only [if_neg hr0]
        exact ⟨_, rfl, rfl, t3⟩
  · simp only [if_neg h2]
    exact ⟨_, rfl, rfl, hv⟩
end
end Go.Proofs.YtmmclabkkigiaaaGreatDoor

set_option maxRecDepth 20000
set_option maxHeartbeats 8000000
namespace Go.Proofs.YtmmclabkkigiaaaGreatDoor
open Go Go.RowKit
def rAt15_J3 (img : List Int) (l : List (Int × Int)) (r25 : Int) (q49 : List Int) : Option (ByteArray × Int × Bool × Int) :=
 need (-9223372036854775808 ≤ (vget img l (r25 + 1)) ∧ (vget img l (r25 + 1)) ≤ 9223372036854775807) <|
(runpack_M q49 (vget img l (r25 + 1))).bind fun r54 =>
(rmay15_M r54.1).bind fun r61 =>
if r61 = true then (need (-9223372036854775808 ≤ (vget img l r25) ∧ (vget img l r25) ≤ 9223372036854775807) <|
some (r54.1, (vget img l r25), true, 0)) else (some (ByteArray.empty, 0, false, 4))
def rAt15_B0 (img : List Int) (l : List (Int × Int)) (r25 : Int) (k83 : ((List Int) × Int) → Option (ByteArray × Int × Bool × Int)) (q81 : List Int) (p82 : Int) : Option (ByteArray × Int × Bool × Int) :=
 if p82 < 8 then (need (-9223372036854775808 ≤ (r25 + p82) ∧ (r25 + p82) ≤ 9223372036854775807) <|
need (q81.length + 1 ≤ 1000000000) <|
need (-9223372036854775808 ≤ (p82 + 1) ∧ (p82 + 1) ≤ 9223372036854775807) <|
k83 ((q81 ++ [(vget img l (r25 + p82))]), (p82 + 1))) else (rAt15_J3 img l r25 q81)
def rAt15_J2 (img : List Int) (l : List (Int × Int)) (k_ : Int) (r25 : Int) (p37 : Bool) : Option (ByteArray × Int × Bool × Int) :=
 if p37 = true then (some (ByteArray.empty, 0, false, 4)) else (iter (fun k_ s_ => rAt15_B0 img l r25 k_ s_.1 s_.2) FUEL ([], 2))
def rAt15_J1 (img : List Int) (l : List (Int × Int)) (gw : Int) (gi : Int) (gb : Int) (k_ : Int) (r6 : Int × Int) (p12 : Bool) : Option (ByteArray × Int × Bool × Int) :=
 if p12 = true then (some (ByteArray.empty, 0, false, r6.2)) else ((some (placeOf 9 gw gi gb r6.1)).bind fun r25 =>
need (-9223372036854775808 ≤ (r25 + 1) ∧ (r25 + 1) ≤ 9223372036854775807) <|
if (vget img l r25) < 1 then (rAt15_J2 img l k_ r25 true) else (need (0 ≤ gi ∧ gi ≤ 18446744073709551615) <|
if (vget img l r25) ≥ gi then (rAt15_J2 img l k_ r25 true) else (if (vget img l (r25 + 1)) < 1 then (rAt15_J2 img l k_ r25 true) else (rAt15_J2 img l k_ r25 (decide ((vget img l (r25 + 1)) > 40))))))
def rAt15_M (img : List Int) (l : List (Int × Int)) (gw : Int) (gi : Int) (gb : Int) (n_ : Int) (k_ : Int) : Option (ByteArray × Int × Bool × Int) :=
 (rat13_M img l gw gi gb n_ k_).bind fun r6 =>
if r6.2 = 0 then (rAt15_J1 img l gw gi gb k_ r6 (decide (r6.1 = 0))) else (rAt15_J1 img l gw gi gb k_ r6 true)
theorem rAt15_walk {img : List Int} {l : List (Int × Int)} {gw : Int} {gi : Int} {gb : Int} {n_ : Int} {k_ : Int} {mb vb : Nat} {r : ByteArray × Int × Bool × Int} (B : Nat) (w : World) (hmb : w.heap[mb]? = some (.cells [(zp vb), (zi gw), (zi gi), (zi gb), (zi n_)].toArray 127 (0, 0))) (hv : RefAt (ptr vb) img l w) (hm : rAt15_M img l gw gi gb n_ k_ = some r) : Spec Tryz.prog 64 #[(zp mb), (zi k_)] B w [] (fun v H' => v = (.tuple #[(.agg #[(.string r.1), (zi r.2.1)]), (.bool r.2.2.1), (zi r.2.2.2)]) ∧ H' = []) := by
 refine spec_Q Tryz.func64 rfl fun hs => ?_
 unfold rAt15_M at hm
 refine W.sr fun K1 hK1 => ?_
 refine zN [(.string ByteArray.empty), (zi 0)] 61 hs fun b4 w2 hs3 => ?_
 refine zE 2 (hK1 _ _ ?_)
 refine W.sr fun K5 hK5 => ?_
 refine zR 2 ?_
 obtain ⟨r6, h7, hm⟩ := bind_some hm
 refine zC00 hs3 (rat13_walk (k_ := k_) (img := img) (l := l) (gw := gw) (gi := gi) (gb := gb) (n_ := n_) (hmb := (hs3.old hmb)) (hv := (refAt_old hs3 hv)) (hm := h7) B _) fun w8 hs10 => ?_
 refine zE 5 (hK5 _ _ ?_)
 refine W.seq fun K11 hK11 => ?_
 refine W.seq_join (fun s_ w_ => ∃ (p12 : Bool), (∃ us, s_ = slots 100 [(0, (zp mb)), (4, (zp b4)), (7, (zi r6.1)), (8, (zi r6.2)), (27, (.bool p12))] us) ∧ St B w [] w_ [zb b4 61 [(.string ByteArray.empty), (zi 0)]] ∧ rAt15_J1 img l gw gi gb k_ r6 p12 = some r) ?_ ?_
 ·
  rintro _ w13 ⟨p12, ⟨us, rfl⟩, hs14, hm⟩
  unfold rAt15_J1 at hm
  refine W.cond p12 (by kernel_rfl) (fun h15 => ?_) (fun h15 => ?_)
  ·
   have h15p : p12 = true := h15
   replace hm := ite_yes hm h15p
   refine W.sr fun K16 hK16 => ?_
   refine zR 2 ?_
   refine zT 0 [(.string ByteArray.empty), (zi 0)] [(.string ByteArray.empty), (zi 0)] hs14 fun w17 hs19 => ?_
   refine zE 2 (hK16 _ _ ?_)
   refine W.ret (ret_seq ?_)
   obtain rfl := some_inj hm
   have hs20 := St.tk0 hs19
   refine ret_of (.tuple #[(.agg #[(.string ByteArray.empty), (zi 0)]), (.bool false), (zi r6.2)]) (resS_of (by kernel_rfl) (resD_three rfl (.agg (ad := ⟨b4, 0, none⟩) (cs := [(.string ByteArray.empty), (zi 0)]) (by kernel_rfl) (by kernel_rfl) (cells_sub (hs19.heapAt 0 rfl) rfl)) (.tmp (by kernel_rfl)) (.tmp (by kernel_rfl)))) ⟨_, ⟨rfl, rfl⟩, hs20⟩
  have h15p : ¬ (p12 = true) := ne_true_of_eq_false h15
  replace hm := ite_no hm h15p
  refine W.skip ?_
  refine hK11 _ _ ?_
  refine W.sr fun K21 hK21 => ?_
  refine zR 3 ?_
  refine zG ⟨mb, 1, none⟩ [(zi gw), (zi gi), (zi gb)] (cells_sub (hs14.old hmb) rfl) ?_
  refine zR 1 ?_
  refine zC00 hs14 (rblockat_spec (gw := gw) (gi := gi) (gb := gb) (n_ := r6.1) B _) fun w22 hs24 => ?_
  refine zR 1 ?_
  obtain ⟨r25, h26, hm⟩ := bind_some hm
  replace h26 := some_inj h26
  refine ops_set 9 (v := .int .i64 r25) (Eq.trans (by kernel_rfl) (congrArg (Value.int .i64) h26)) ?_
  refine zD (hK21 _ _ ?_)
  refine W.sr fun K27 hK27 => ?_
  refine zR 3 ?_
  refine zL ⟨mb, 0, none⟩ (zp vb) (cell_of_blk (hs24.old hmb) rfl) ?_
  refine zR 1 ?_
  refine zC00 hs24 (rget_spec (at_ := r25) (hv := (refAt_old hs24 hv)) B _) fun w28 hs30 => ?_
  refine zE 1 (hK27 _ _ ?_)
  refine W.sr fun K31 hK31 => ?_
  refine zR 3 ?_
  refine zL ⟨mb, 0, none⟩ (zp vb) (cell_of_blk (hs30.old hmb) rfl) ?_
  refine zR 1 ?_
  obtain ⟨h32, hm⟩ := need_some hm
  refine zI _ (wrap_i64 h32.1 h32.2) ?_
  refine zC00 hs30 (rget_spec (at_ := (r25 + 1)) (hv := (refAt_old hs30 hv)) B _) fun w33 hs35 => ?_
  refine zE 1 (hK31 _ _ ?_)
  refine W.seq fun K36 hK36 => ?_
  refine W.seq_join (fun s_ w_ => ∃ (p37 : Bool), (∃ us, s_ = slots 100 [(0, (zp mb)), (4, (zp b4)), (9, (zi r25)), (10, (zu (vget img l r25))), (11, (zu (vget img l (r25 + 1)))), (68, (.bool p37))] us) ∧ St B w [] w_ [zb b4 61 [(.string ByteArray.empty), (zi 0)]] ∧ rAt15_J2 img l k_ r25 p37 = some r) ?_ ?_
  ·
   rintro _ w38 ⟨p37, ⟨us, rfl⟩, hs39, hm⟩
   unfold rAt15_J2 at hm
   refine W.cond p37 (by kernel_rfl) (fun h40 => ?_) (fun h40 => ?_)
   ·
    have h40p : p37 = true := h40
    replace hm := ite_yes hm h40p
    refine W.sr fun K41 hK41 => ?_
    refine zR 1 ?_
    refine zT 0 [(.string ByteArray.empty), (zi 0)] [(.string ByteArray.empty), (zi 0)] hs39 fun w42 hs44 => ?_
    refine zE 2 (hK41 _ _ ?_)
    refine W.ret (ret_seq ?_)
    obtain rfl := some_inj hm
    have hs45 := St.tk0 hs44
    refine ret_of (.tuple #[(.agg #[(.string ByteArray.empty), (zi 0)]), (.bool false), (zi 4)]) (resS_of (by kernel_rfl) (resD_three rfl (.agg (ad := ⟨b4, 0, none⟩) (cs := [(.string ByteArray.empty), (zi 0)]) (by kernel_rfl) (by kernel_rfl) (cells_sub (hs44.heapAt 0 rfl) rfl)) (.tmp (by kernel_rfl)) (.tmp (by kernel_rfl)))) ⟨_, ⟨rfl, rfl⟩, hs45⟩
   have h40p : ¬ (p37 = true) := ne_true_of_eq_false h40
   replace hm := ite_no hm h40p
   refine W.skip ?_
   refine hK36 _ _ ?_
   refine W.sr fun K46 hK46 => ?_
   refine zE 1 (hK46 _ _ ?_)
   refine W.seq_join (fun s_ w_ => ∃ (q49 : List Int) (m47 : Option Addr) (m48 : Nat), (∃ us, s_ = slots 100 [(4, (zp b4)), (10, (zu (vget img l r25))), (11, (zu (vget img l (r25 + 1)))), (12, (.slice m47 q49.length m48))] us) ∧ St B w [] w_ [zb b4 61 [(.string ByteArray.empty), (zi 0)], kU64.row m47 m48 q49] ∧ rAt15_J3 img l r25 q49 = some r) ?_ ?_
   ·
    rintro _ w50 ⟨q49, m47, m48, ⟨us, rfl⟩, hs51, hm⟩
    unfold rAt15_J3 at hm
    refine W.sr fun K52 hK52 => ?_
    refine zR 2 ?_
    obtain ⟨h53, hm⟩ := need_some hm
    refine zI _ (wrap_i64 h53.1 h53.2) ?_
    obtain ⟨r54, h55, hm⟩ := bind_some hm
    refine zC00 hs51 (runpack_walk (ws := q49) (n_ := (vget img l (r25 + 1))) (wa := m47) (wc := m48) (hw := (St.kcells kU64 hs51 1 rfl)) (hm := h55) B _) fun w56 hs58 => ?_
    refine zE 5 (hK52 _ _ ?_)
    refine W.seq fun K59 hK59 => ?_
    refine W.sr fun K60 hK60 => ?_
    refine zR 1 ?_
    obtain ⟨r61, h62, hm⟩ := bind_some hm
    refine zC00 hs58 (rmay15_walk (tx_ := r54.1) (hm := h62) B _) fun w63 hs65 => ?_
    refine zE 1 (hK60 _ _ ?_)
    refine W.cond (!r61) (by kernel_rfl) (fun h66 => ?_) (fun h66 => ?_)
    rotate_left
    ·
     have h66p : r61 = true := (bnot_false h66)
     replace hm := ite_yes hm h66p
     refine W.skip ?_
     refine hK59 _ _ ?_
     refine W.sr fun K67 hK67 => ?_
     refine zR 2 ?_
     obtain ⟨h68, hm⟩ := need_some hm
     refine zI _ (wrap_i64 h68.1 h68.2) ?_
     refine zR 1 ?_
     refine zT 0 [(.string r54.1), (zi (vget img l r25))] [(.string r54.1), (zi (vget img l r25))] hs65 fun w69 hs71 => ?_
     refine zE 2 (hK67 _ _ ?_)
     refine W.ret ?_
     obtain rfl := some_inj hm
     have hs72 := St.tk0 hs71
     refine ret_of (.tuple #[(.agg #[(.string r54.1), (zi (vget img l r25))]), (.bool true), (zi 0)]) (resS_of (by kernel_rfl) (resD_three rfl (.agg (ad := ⟨b4, 0, none⟩) (cs := [(.string r54.1), (zi (vget img l r25))]) (by kernel_rfl) (by kernel_rfl) (cells_sub (hs71.heapAt 0 rfl) rfl)) (.tmp (by kernel_rfl)) (.tmp (by kernel_rfl)))) ⟨_, ⟨rfl, rfl⟩, hs72⟩
    have h66p : ¬ (r61 = true) := ne_true_of_eq_false (bnot_true h66)
    replace hm := ite_no hm h66p
    refine W.sr fun K73 hK73 => ?_
    refine zR 1 ?_
    refine zT 0 [(.string ByteArray.empty), (zi 0)] [(.string ByteArray.empty), (zi 0)] hs65 fun w74 hs76 => ?_
    refine zE 2 (hK73 _ _ ?_)
    refine W.ret (ret_seq ?_)
    obtain rfl := some_inj hm
    have hs77 := St.tk0 hs76
    refine ret_of (.tuple #[(.agg #[(.string ByteArray.empty), (zi 0)]), (.bool false), (zi 4)]) (resS_of (by kernel_rfl) (resD_three rfl (.agg (ad := ⟨b4, 0, none⟩) (cs := [(.string ByteArray.empty), (zi 0)]) (by kernel_rfl) (by kernel_rfl) (cells_sub (hs76.heapAt 0 rfl) rfl)) (.tmp (by kernel_rfl)) (.tmp (by kernel_rfl)))) ⟨_, ⟨rfl, rfl⟩, hs77⟩
   refine W.sr fun K78 hK78 => ?_
   refine zE 1 (hK78 _ _ ?_)
   refine W.block ?_
   have hs87 := St.knil kU64 hs39
   have hs88 := St.f1 hs87
   refine W.loop_iter (G := (List Int) × Int × (Option Addr) × Nat) (σ := (List Int) × Int) (fun | (q81, p82, m79, m80) => (q81, p82)) (fun | (q81, p82, m79, m80), s_, w_ => (∃ us, s_ = slots 100 [(0, (zp mb)), (4, (zp b4)), (9, (zi r25)), (10, (zu (vget img l r25))), (11, (zu (vget img l (r25 + 1)))), (12, (.slice m79 q81.length m80)), (13, (zi p82))] us) ∧ St B w [] w_ [zb b4 61 [(.string ByteArray.empty), (zi 0)], kU64.row m79 m80 q81]) ([], 2, none, 0) ⟨slots_intro _ (by kernel_rfl), hs88⟩ hm ?_
   rintro k83 ih84 ⟨q81, p82, m79, m80⟩ _ w85 ⟨⟨us, rfl⟩, hs86⟩ hm
   replace hm : rAt15_B0 img l r25 k83 q81 p82 = some r := hm
   unfold rAt15_B0 at hm
   refine W.seq fun K89 hK89 => ?_
   refine W.sr fun K90 hK90 => ?_
   refine zE 2 (hK90 _ _ ?_)
   refine W.cond (decide (p82 < 8)) (by kernel_rfl) (fun h91 => ?_) (fun h91 => ?_)
   ·
    obtain ⟨h91p, hm⟩ := iY hm h91
    refine W.skip ?_
    refine hK89 _ _ ?_
    refine W.seq fun K92 hK92 => ?_
    refine W.block ?_
    refine W.region ?_
    refine zR 4 ?_
    refine zL ⟨mb, 0, none⟩ (zp vb) (cell_of_blk (hs86.old hmb) rfl) ?_
    refine zR 2 ?_
    obtain ⟨h93, hm⟩ := need_some hm
    refine zI _ (wrap_i64 h93.1 h93.2) ?_
    refine zC00 hs86 (rget_spec (at_ := (r25 + p82)) (hv := (refAt_old hs86 hv)) B _) fun w94 hs96 => ?_
    refine ops_new (fun b => .slice (some ⟨b, 0, none⟩) 1 1) (.cells [(zu (vget img l (r25 + p82)))].toArray 25 (0, 0)) hs96 (by kernel_rfl) (fun b99 w97 hs98 => ?_)
    have hs100 := St.f2 hs98
    obtain ⟨h105, hm⟩ := need_some hm
    refine ops_appendK kU64 (bytes := 8) (a' := (some ⟨b99, 0, none⟩)) (c' := 1) (l := q81) (m := [(vget img l (r25 + p82))]) hs100 (by kernel_rfl) (by simp) (cells_blk (hs100.heapAt 1 rfl)) (by unfold maxLen; (try simp only [List.length_cons, List.length_nil]); omega) (by (try simp only [List.length_cons, List.length_nil]); omega) (fun a101 c102 w103 hs104 => ?_)
    refine zE 1 ?_
    refine normal_block ?_
    refine hK92 _ _ ?_
    refine W.region ?_
    refine zR 1 ?_
    obtain ⟨h106, hm⟩ := need_some hm
    refine zI _ (wrap_i64 h106.1 h106.2) ?_
    refine zE 1 ?_
    have hs107 := St.f2 hs104
    have hs108 := St.tk2 hs107
    refine loopAt_next ?_
    exact ih84 ((q81 ++ [(vget img l (r25 + p82))]), (p82 + 1), a101, c102) _ _ ⟨slots_intro _ (by kernel_rfl), hs108⟩ hm
   obtain ⟨h91p, hm⟩ := iN hm h91
   refine W.exit (exit_seq (exit_seq (exit_here ?_)))
   exact ⟨q81, m79, m80, slots_intro _ (by kernel_rfl), hs86, hm⟩
  refine W.region ?_
  refine zR 3 ?_
  rcases Bool.eq_false_or_eq_true (decide ((vget img l r25) < 1)) with h109 | h109
  ·
   obtain ⟨h109p, hm⟩ := iY hm h109
   refine zS 51 h109 ?_
   refine zS 50 h109 ?_
   refine zE 17 ?_
   exact ⟨true, slots_intro _ (by kernel_rfl), hs35, hm⟩
  obtain ⟨h109p, hm⟩ := iN hm h109
  refine zS 51 h109 ?_
  refine zS 50 h109 ?_
  refine zR 5 ?_
  refine zL ⟨mb, 2, none⟩ (zi gi) (cell_of_blk (hs35.old hmb) rfl) ?_
  obtain ⟨h110, hm⟩ := need_some hm
  refine zI _ (wrap_u64 h110.1 (Int.lt_of_le_of_lt h110.2 (by decide))) ?_
  refine zR 3 ?_
  rcases Bool.eq_false_or_eq_true (decide ((vget img l r25) ≥ gi)) with h111 | h111
  ·
   obtain ⟨h111p, hm⟩ := iY hm h111
   refine zS 61 h111 ?_
   refine zS 59 h111 ?_
   refine zS 60 h111 ?_
   refine zE 7 ?_
   exact ⟨true, slots_intro _ (by kernel_rfl), hs35, hm⟩
  obtain ⟨h111p, hm⟩ := iN hm h111
  refine zS 61 h111 ?_
  refine zS 59 h111 ?_
  refine zS 60 h111 ?_
  refine zR 4 ?_
  rcases Bool.eq_false_or_eq_true (decide ((vget img l (r25 + 1)) < 1)) with h112 | h112
  ·
   obtain ⟨h112p, hm⟩ := iY hm h112
   refine zS 65 h112 ?_
   refine zS 63 h112 ?_
   refine zS 64 h112 ?_
   refine zE 3 ?_
   exact ⟨true, slots_intro _ (by kernel_rfl), hs35, hm⟩
  obtain ⟨h112p, hm⟩ := iN hm h112
  refine zS 65 h112 ?_
  refine zS 63 h112 ?_
  refine zS 64 h112 ?_
  refine zE 3 ?_
  exact ⟨(decide ((vget img l (r25 + 1)) > 40)), slots_intro _ (by kernel_rfl), hs35, hm⟩
 refine W.region ?_
 refine zR 3 ?_
 rcases Bool.eq_false_or_eq_true (!decide (r6.2 = 0)) with h113 | h113
 rotate_left
 ·
  have h113p : r6.2 = 0 := of_decide_eq_true (bnot_false h113)
  replace hm := ite_yes hm h113p
  refine zS 24 h113 ?_
  refine zS 23 h113 ?_
  refine zE 3 ?_
  exact ⟨(decide (r6.1 = 0)), slots_intro _ (by kernel_rfl), hs10, hm⟩
 have h113p : ¬ (r6.2 = 0) := of_decide_eq_false (bnot_true h113)
 replace hm := ite_no hm h113p
 refine zS 24 h113 ?_
 refine zS 23 h113 ?_
 refine zE 3 ?_
 exact ⟨true, slots_intro _ (by kernel_rfl), hs10, hm⟩
end Go.Proofs.YtmmclabkkigiaaaGreatDoor

set_option maxRecDepth 20000
set_option maxHeartbeats 2000000
namespace Go.Proofs.YtmmclabkkigiaaaGreatDoor
open Go Go.RowKit
theorem rdir_ok {b : Nat} {img : List Int} {l : List (Int × Int)} {gw gi gb n_ : Int} (B : Nat) (w : World) (hv : RefAt (ptr b) img l w) (hP : (igetM img l gw gi gb n_).2 = 0) (hK : (igetM img l gw gi gb n_).1.k = 2) : Spec Tryz.prog 63 #[(zp b), (.agg #[(zi gw), (zi gi), (zi gb)]), (zi n_)] B w [] (fun v H' => ∃ mb, v = (.tuple #[(zp mb), (zi 0)]) ∧ H' = [zb mb 127 [(zp b), (zi gw), (zi gi), (zi gb), (zi n_)]]) := by
 refine spec_Q Tryz.func63 rfl fun hs => ?_
 refine W.sr fun K1 hK1 => ?_
 refine zN [(zi gw), (zi gi), (zi gb)] 42 hs fun b4 w2 hs3 => ?_
 refine zE 2 (hK1 _ _ ?_)
 refine W.sr fun K5 hK5 => ?_
 refine zR 1 ?_
 refine zG ⟨b4, 0, none⟩ [(zi gw), (zi gi), (zi gb)] (cells_sub (hs3.heapAt 0 rfl) rfl) ?_
 refine zR 1 ?_
 refine zC00 hs3 (rg_spec (gw := gw) (gi := gi) (gb := gb) (n_ := n_) (hv := (refAt_old hs3 hv)) B _) fun w6 hs8 => ?_
 refine zR 3 ?_
 refine zN [(zu 0), (zu 0), (zu 0), (zu 0), (zu 0), (zu 0), (zu 0), (zu 0), (zu 0), (zu 0)] 170 hs8 fun b11 w9 hs10 => ?_
 refine zT 0 [(zu ((igetM img l gw gi gb n_).1.k)), (zu ((igetM img l gw gi gb n_).1.l)), (zu ((igetM img l gw gi gb n_).1.o)), (zu ((igetM img l gw gi gb n_).1.s)), (zu ((igetM img l gw gi gb n_).1.a)), (zu ((igetM img l gw gi gb n_).1.b)), (zu ((igetM img l gw gi gb n_).1.c)), (zu ((igetM img l gw gi gb n_).1.d)), (zu ((igetM img l gw gi gb n_).1.e)), (zu ((igetM img l gw gi gb n_).1.m))] [(zu ((igetM img l gw gi gb n_).1.k)), (zu ((igetM img l gw gi gb n_).1.l)), (zu ((igetM img l gw gi gb n_).1.o)), (zu ((igetM img l gw gi gb n_).1.s)), (zu ((igetM img l gw gi gb n_).1.a)), (zu ((igetM img l gw gi gb n_).1.b)), (zu ((igetM img l gw gi gb n_).1.c)), (zu ((igetM img l gw gi gb n_).1.d)), (zu ((igetM img l gw gi gb n_).1.e)), (zu ((igetM img l gw gi gb n_).1.m))] hs10 fun w12 hs14 => ?_
 refine zE 1 (hK5 _ _ ?_)
 refine W.seq fun K15 hK15 => ?_
 refine W.sr fun K16 hK16 => ?_
 refine zE 2 (hK16 _ _ ?_)
 refine W.cond (!decide ((igetM img l gw gi gb n_).2 = 0)) (by kernel_rfl) (fun h17 => ?_) (fun h17 => ?_)
 ·
  have h17p : ¬ ((igetM img l gw gi gb n_).2 = 0) := of_decide_eq_false (bnot_true h17)
  refine W.sr fun K18 hK18 => ?_
  refine zE 3 (hK18 _ _ ?_)
  refine W.ret (ret_seq ?_)
  exfalso; omega
 have h17p : (igetM img l gw gi gb n_).2 = 0 := of_decide_eq_true (bnot_false h17)
 refine W.skip ?_
 refine hK15 _ _ ?_
 refine W.seq fun K19 hK19 => ?_
 refine W.sr fun K20 hK20 => ?_
 refine zR 1 ?_
 refine zL ⟨b11, 0, none⟩ (zu ((igetM img l gw gi gb n_).1.k)) (hs14.cellAt 0 rfl rfl) ?_
 refine zE 1 (hK20 _ _ ?_)
 refine W.cond (!decide ((igetM img l gw gi gb n_).1.k = 2)) (by kernel_rfl) (fun h21 => ?_) (fun h21 => ?_)
 ·
  have h21p : ¬ ((igetM img l gw gi gb n_).1.k = 2) := of_decide_eq_false (bnot_true h21)
  refine W.sr fun K22 hK22 => ?_
  refine zE 2 (hK22 _ _ ?_)
  refine W.ret (ret_seq ?_)
  exfalso; omega
 have h21p : (igetM img l gw gi gb n_).1.k = 2 := of_decide_eq_true (bnot_false h21)
 refine W.skip ?_
 refine hK19 _ _ ?_
 refine W.sr fun K23 hK23 => ?_
 refine zR 1 ?_
 refine zG ⟨b4, 0, none⟩ [(zi gw), (zi gi), (zi gb)] (cells_sub (hs14.heapAt 1 rfl) rfl) ?_
 refine zR 2 ?_
 refine zN [(zp b), (zi gw), (zi gi), (zi gb), (zi n_)] 127 hs14 fun b26 w24 hs25 => ?_
 refine zE 2 (hK23 _ _ ?_)
 refine W.ret ?_
 have hs27 := St.tk1 hs25
 refine ret_of (.tuple #[(zp b26), (zi 0)]) (by kernel_rfl) ⟨_, ⟨b26, rfl, rfl⟩, hs27⟩
theorem rdir_dir {b : Nat} {img : List Int} {l : List (Int × Int)} {gw gi gb n_ : Int} (B : Nat) (w : World) (hv : RefAt (ptr b) img l w) (hP : (igetM img l gw gi gb n_).2 = 0) (hK : ¬ ((igetM img l gw gi gb n_).1.k = 2)) : Spec Tryz.prog 63 #[(zp b), (.agg #[(zi gw), (zi gi), (zi gb)]), (zi n_)] B w [] (fun v H' => v = (.tuple #[(.pointer none), (zi 10)]) ∧ H' = []) := by
 refine spec_Q Tryz.func63 rfl fun hs => ?_
 refine W.sr fun K1 hK1 => ?_
 refine zN [(zi gw), (zi gi), (zi gb)] 42 hs fun b4 w2 hs3 => ?_
 refine zE 2 (hK1 _ _ ?_)
 refine W.sr fun K5 hK5 => ?_
 refine zR 1 ?_
 refine zG ⟨b4, 0, none⟩ [(zi gw), (zi gi), (zi gb)] (cells_sub (hs3.heapAt 0 rfl) rfl) ?_
 refine zR 1 ?_
 refine zC00 hs3 (rg_spec (gw := gw) (gi := gi) (gb := gb) (n_ := n_) (hv := (refAt_old hs3 hv)) B _) fun w6 hs8 => ?_
 refine zR 3 ?_
 refine zN [(zu 0), (zu 0), (zu 0), (zu 0), (zu 0), (zu 0), (zu 0), (zu 0), (zu 0), (zu 0)] 170 hs8 fun b11 w9 hs10 => ?_
 refine zT 0 [(zu ((igetM img l gw gi gb n_).1.k)), (zu ((igetM img l gw gi gb n_).1.l)), (zu ((igetM img l gw gi gb n_).1.o)), (zu ((igetM img l gw gi gb n_).1.s)), (zu ((igetM img l gw gi gb n_).1.a)), (zu ((igetM img l gw gi gb n_).1.b)), (zu ((igetM img l gw gi gb n_).1.c)), (zu ((igetM img l gw gi gb n_).1.d)), (zu ((igetM img l gw gi gb n_).1.e)), (zu ((igetM img l gw gi gb n_).1.m))] [(zu ((igetM img l gw gi gb n_).1.k)), (zu ((igetM img l gw gi gb n_).1.l)), (zu ((igetM img l gw gi gb n_).1.o)), (zu ((igetM img l gw gi gb n_).1.s)), (zu ((igetM img l gw gi gb n_).1.a)), (zu ((igetM img l gw gi gb n_).1.b)), (zu ((igetM img l gw gi gb n_).1.c)), (zu ((igetM img l gw gi gb n_).1.d)), (zu ((igetM img l gw gi gb n_).1.e)), (zu ((igetM img l gw gi gb n_).1.m))] hs10 fun w12 hs14 => ?_
 refine zE 1 (hK5 _ _ ?_)
 refine W.seq fun K15 hK15 => ?_
 refine W.sr fun K16 hK16 => ?_
 refine zE 2 (hK16 _ _ ?_)
 refine W.cond (!decide ((igetM img l gw gi gb n_).2 = 0)) (by kernel_rfl) (fun h17 => ?_) (fun h17 => ?_)
 ·
  have h17p : ¬ ((igetM img l gw gi gb n_).2 = 0) := of_decide_eq_false (bnot_true h17)
  refine W.sr fun K18 hK18 => ?_
  refine zE 3 (hK18 _ _ ?_)
  refine W.ret (ret_seq ?_)
  exfalso; omega
 have h17p : (igetM img l gw gi gb n_).2 = 0 := of_decide_eq_true (bnot_false h17)
 refine W.skip ?_
 refine hK15 _ _ ?_
 refine W.seq fun K19 hK19 => ?_
 refine W.sr fun K20 hK20 => ?_
 refine zR 1 ?_
 refine zL ⟨b11, 0, none⟩ (zu ((igetM img l gw gi gb n_).1.k)) (hs14.cellAt 0 rfl rfl) ?_
 refine zE 1 (hK20 _ _ ?_)
 refine W.cond (!decide ((igetM img l gw gi gb n_).1.k = 2)) (by kernel_rfl) (fun h21 => ?_) (fun h21 => ?_)
 ·
  have h21p : ¬ ((igetM img l gw gi gb n_).1.k = 2) := of_decide_eq_false (bnot_true h21)
  refine W.sr fun K22 hK22 => ?_
  refine zE 2 (hK22 _ _ ?_)
  refine W.ret (ret_seq ?_)
  have hs23 := St.tk0 hs14
  refine ret_of (.tuple #[(.pointer none), (zi 10)]) (by kernel_rfl) ⟨_, ⟨rfl, rfl⟩, hs23⟩
 have h21p : (igetM img l gw gi gb n_).1.k = 2 := of_decide_eq_true (bnot_false h21)
 refine W.skip ?_
 refine hK19 _ _ ?_
 refine W.sr fun K24 hK24 => ?_
 refine zR 1 ?_
 refine zG ⟨b4, 0, none⟩ [(zi gw), (zi gi), (zi gb)] (cells_sub (hs14.heapAt 1 rfl) rfl) ?_
 refine zR 2 ?_
 refine zN [(zp b), (zi gw), (zi gi), (zi gb), (zi n_)] 127 hs14 fun b27 w25 hs26 => ?_
 refine zE 2 (hK24 _ _ ?_)
 refine W.ret ?_
 exfalso; omega
theorem rdir_err {b : Nat} {img : List Int} {l : List (Int × Int)} {gw gi gb n_ : Int} (B : Nat) (w : World) (hv : RefAt (ptr b) img l w) (hN : ¬ ((igetM img l gw gi gb n_).2 = 0)) : Spec Tryz.prog 63 #[(zp b), (.agg #[(zi gw), (zi gi), (zi gb)]), (zi n_)] B w [] (fun v H' => v = (.tuple #[(.pointer none), (zi ((igetM img l gw gi gb n_).2))]) ∧ H' = []) := by
 refine spec_Q Tryz.func63 rfl fun hs => ?_
 refine W.sr fun K1 hK1 => ?_
 refine zN [(zi gw), (zi gi), (zi gb)] 42 hs fun b4 w2 hs3 => ?_
 refine zE 2 (hK1 _ _ ?_)
 refine W.sr fun K5 hK5 => ?_
 refine zR 1 ?_
 refine zG ⟨b4, 0, none⟩ [(zi gw), (zi gi), (zi gb)] (cells_sub (hs3.heapAt 0 rfl) rfl) ?_
 refine zR 1 ?_
 refine zC00 hs3 (rg_spec (gw := gw) (gi := gi) (gb := gb) (n_ := n_) (hv := (refAt_old hs3 hv)) B _) fun w6 hs8 => ?_
 refine zR 3 ?_
 refine zN [(zu 0), (zu 0), (zu 0), (zu 0), (zu 0), (zu 0), (zu 0), (zu 0), (zu 0), (zu 0)] 170 hs8 fun b11 w9 hs10 => ?_
 refine zT 0 [(zu ((igetM img l gw gi gb n_).1.k)), (zu ((igetM img l gw gi gb n_).1.l)), (zu ((igetM img l gw gi gb n_).1.o)), (zu ((igetM img l gw gi gb n_).1.s)), (zu ((igetM img l gw gi gb n_).1.a)), (zu ((igetM img l gw gi gb n_).1.b)), (zu ((igetM img l gw gi gb n_).1.c)), (zu ((igetM img l gw gi gb n_).1.d)), (zu ((igetM img l gw gi gb n_).1.e)), (zu ((igetM img l gw gi gb n_).1.m))] [(zu ((igetM img l gw gi gb n_).1.k)), (zu ((igetM img l gw gi gb n_).1.l)), (zu ((igetM img l gw gi gb n_).1.o)), (zu ((igetM img l gw gi gb n_).1.s)), (zu ((igetM img l gw gi gb n_).1.a)), (zu ((igetM img l gw gi gb n_).1.b)), (zu ((igetM img l gw gi gb n_).1.c)), (zu ((igetM img l gw gi gb n_).1.d)), (zu ((igetM img l gw gi gb n_).1.e)), (zu ((igetM img l gw gi gb n_).1.m))] hs10 fun w12 hs14 => ?_
 refine zE 1 (hK5 _ _ ?_)
 refine W.seq fun K15 hK15 => ?_
 refine W.sr fun K16 hK16 => ?_
 refine zE 2 (hK16 _ _ ?_)
 refine W.cond (!decide ((igetM img l gw gi gb n_).2 = 0)) (by kernel_rfl) (fun h17 => ?_) (fun h17 => ?_)
 ·
  have h17p : ¬ ((igetM img l gw gi gb n_).2 = 0) := of_decide_eq_false (bnot_true h17)
  refine W.sr fun K18 hK18 => ?_
  refine zE 3 (hK18 _ _ ?_)
  refine W.ret (ret_seq ?_)
  have hs19 := St.tk0 hs14
  refine ret_of (.tuple #[(.pointer none), (zi ((igetM img l gw gi gb n_).2))]) (by kernel_rfl) ⟨_, ⟨rfl, rfl⟩, hs19⟩
 have h17p : (igetM img l gw gi gb n_).2 = 0 := of_decide_eq_true (bnot_false h17)
 refine W.skip ?_
 refine hK15 _ _ ?_
 refine W.seq fun K20 hK20 => ?_
 refine W.sr fun K21 hK21 => ?_
 refine zR 1 ?_
 refine zL ⟨b11, 0, none⟩ (zu ((igetM img l gw gi gb n_).1.k)) (hs14.cellAt 0 rfl rfl) ?_
 refine zE 1 (hK21 _ _ ?_)
 refine W.cond (!decide ((igetM img l gw gi gb n_).1.k = 2)) (by kernel_rfl) (fun h22 => ?_) (fun h22 => ?_)
 ·
  have h22p : ¬ ((igetM img l gw gi gb n_).1.k = 2) := of_decide_eq_false (bnot_true h22)
  refine W.sr fun K23 hK23 => ?_
  refine zE 2 (hK23 _ _ ?_)
  refine W.ret (ret_seq ?_)
  exfalso; omega
 have h22p : (igetM img l gw gi gb n_).1.k = 2 := of_decide_eq_true (bnot_false h22)
 refine W.skip ?_
 refine hK20 _ _ ?_
 refine W.sr fun K24 hK24 => ?_
 refine zR 1 ?_
 refine zG ⟨b4, 0, none⟩ [(zi gw), (zi gi), (zi gb)] (cells_sub (hs14.heapAt 1 rfl) rfl) ?_
 refine zR 2 ?_
 refine zN [(zp b), (zi gw), (zi gi), (zi gb), (zi n_)] 127 hs14 fun b27 w25 hs26 => ?_
 refine zE 2 (hK24 _ _ ?_)
 refine W.ret ?_
 exfalso; omega
end Go.Proofs.YtmmclabkkigiaaaGreatDoor

set_option maxRecDepth 20000
set_option maxHeartbeats 4000000
namespace Go.Proofs.YtmmclabkkigiaaaGreatDoor
open Go Go.RowKit
def rFind15_J1  : Option (ByteArray × Int × Int × Int) :=
 some (ByteArray.empty, 0, 0, 6)
def rFind15_J3 (k35 : Int → Option (ByteArray × Int × Int × Int)) (p34 : Int) (r48 : Int) (r55 : ByteArray × Int × Bool × Int) (p69 : Bool) : Option (ByteArray × Int × Int × Int) :=
 if p69 = true then (some (r55.1, r55.2.1, (r48 + p34).tmod 12, 0)) else (need (-9223372036854775808 ≤ (p34 + 1) ∧ (p34 + 1) ≤ 9223372036854775807) <|
k35 (p34 + 1))
def rFind15_B0 (img : List Int) (l : List (Int × Int)) (gw : Int) (gi : Int) (gb : Int) (n_ : Int) (tx_ : ByteArray) (k35 : Int → Option (ByteArray × Int × Int × Int)) (p34 : Int) : Option (ByteArray × Int × Int × Int) :=
 if p34 < 12 then ((rbegin15_M tx_).bind fun r48 =>
need (-9223372036854775808 ≤ (r48 + p34) ∧ (r48 + p34) ≤ 9223372036854775807) <|
(rAt15_M img l gw gi gb n_ ((r48 + p34).tmod 12)).bind fun r55 =>
if r55.2.2.2 = 0 then (if r55.2.2.1 = true then (rFind15_J3 k35 p34 r48 r55 (r55.1.toList == tx_.toList)) else (rFind15_J3 k35 p34 r48 r55 false)) else (some (ByteArray.empty, 0, 0, r55.2.2.2))) else (rFind15_J1)
def rFind15_M (img : List Int) (l : List (Int × Int)) (gw : Int) (gi : Int) (gb : Int) (n_ : Int) (tx_ : ByteArray) : Option (ByteArray × Int × Int × Int) :=
 if (igetM img l gw gi gb n_).2 = 0 then (if (igetM img l gw gi gb n_).1.k = 2 then ((rmay15_M tx_).bind fun r19 =>
if r19 = true then (iter (fun k_ s_ => rFind15_B0 img l gw gi gb n_ tx_ k_ s_) FUEL 0) else (some (ByteArray.empty, 0, 0, 13))) else (some (ByteArray.empty, 0, 0, 10))) else ((some ((igetM img l gw gi gb n_).2)).bind fun r124 =>
if r124 = 0 then (none) else (some (ByteArray.empty, 0, 0, r124)))
theorem rFind15_walk {img : List Int} {l : List (Int × Int)} {gw : Int} {gi : Int} {gb : Int} {n_ : Int} {tx_ : ByteArray} {vb : Nat} {r : ByteArray × Int × Int × Int} (B : Nat) (w : World) (hm : rFind15_M img l gw gi gb n_ tx_ = some r) : Spec Tryz.prog 28 #[(zp vb), (.agg #[(zi gw), (zi gi), (zi gb)]), (zi n_), (.string tx_)] B w [refA (ptr vb) img l] (fun v H' => v = (.tuple #[(.agg #[(.string r.1), (zi r.2.1)]), (zi r.2.2.1), (zi r.2.2.2)]) ∧ H' = [refA (ptr vb) img l]) := by
 refine spec_W Tryz.func28 rfl fun l0 hs => ?_
 unfold rFind15_M at hm
 refine W.sr fun K1 hK1 => ?_
 refine zN [(zi gw), (zi gi), (zi gb)] 42 hs fun b4 w2 hs3 => ?_
 refine zN [(.string ByteArray.empty), (zi 0)] 61 hs3 fun b7 w5 hs6 => ?_
 refine zE 2 (hK1 _ _ ?_)
 refine W.sr fun K8 hK8 => ?_
 refine zR 1 ?_
 refine zG ⟨b4, 0, none⟩ [(zi gw), (zi gi), (zi gb)] (cells_sub (hs6.heapAt 1 rfl) rfl) ?_
 refine zR 1 ?_
 rcases Bool.eq_false_or_eq_true (decide ((igetM img l gw gi gb n_).2 = 0)) with h9 | h9
 ·
  obtain ⟨h9p, hm⟩ := iY hm h9
  rcases Bool.eq_false_or_eq_true (decide ((igetM img l gw gi gb n_).1.k = 2)) with h10 | h10
  ·
   obtain ⟨h10p, hm⟩ := iY hm h10
   refine ops_call0 hs6 (by kernel_rfl) (rdir_ok (gw := gw) (gi := gi) (gb := gb) (n_ := n_) (hv := (hs6.entAt 2 rfl refA_at)) (hP := h9p) (hK := h10p) B _) ?_
   rintro _ _ w12 ⟨b11, rfl, rfl⟩ hs13
   have hs14 := St.ap1 hs13
   refine zE 5 (hK8 _ _ ?_)
   refine W.seq fun K15 hK15 => ?_
   refine W.sr fun K16 hK16 => ?_
   refine zE 2 (hK16 _ _ ?_)
   refine W.cond_false false (by kernel_rfl) rfl ?_
   refine W.skip ?_
   refine hK15 _ _ ?_
   refine W.seq fun K17 hK17 => ?_
   refine W.sr fun K18 hK18 => ?_
   refine zR 1 ?_
   obtain ⟨r19, h20, hm⟩ := bind_some hm
   refine zC00 hs14 (rmay15_walk (tx_ := tx_) (hm := h20) B _) fun w21 hs23 => ?_
   refine zE 1 (hK18 _ _ ?_)
   refine W.cond (!r19) (by kernel_rfl) (fun h24 => ?_) (fun h24 => ?_)
   rotate_left
   ·
    have h24p : r19 = true := (bnot_false h24)
    replace hm := ite_yes hm h24p
    refine W.skip ?_
    refine hK17 _ _ ?_
    refine W.seq_join (fun s_ w_ => (∃ us, s_ = slots 63 [(8, (zp b7))] us) ∧ St B w l0 w_ [zb b7 61 [(.string ByteArray.empty), (zi 0)], refA (ptr vb) img l, zb b11 127 [(zp vb), (zi gw), (zi gi), (zi gb), (zi n_)], zb b4 42 [(zi gw), (zi gi), (zi gb)]] ∧ rFind15_J1 = some r) ?_ ?_
    ·
     rintro _ w25 ⟨⟨us, rfl⟩, hs26, hm⟩
     unfold rFind15_J1 at hm
     refine W.sr fun K27 hK27 => ?_
     refine zR 1 ?_
     refine zT 0 [(.string ByteArray.empty), (zi 0)] [(.string ByteArray.empty), (zi 0)] hs26 fun w28 hs30 => ?_
     refine zE 2 (hK27 _ _ ?_)
     refine W.ret ?_
     obtain rfl := some_inj hm
     have hs31 := St.f1 hs30
     have hs32 := St.tk1 hs31
     refine ret_of (.tuple #[(.agg #[(.string ByteArray.empty), (zi 0)]), (zi 0), (zi 6)]) (resS_of (by kernel_rfl) (resD_three rfl (.agg (ad := ⟨b7, 0, none⟩) (cs := [(.string ByteArray.empty), (zi 0)]) (by kernel_rfl) (by kernel_rfl) (cells_sub (hs30.heapAt 0 rfl) rfl)) (.tmp (by kernel_rfl)) (.tmp (by kernel_rfl)))) ⟨_, ⟨rfl, rfl⟩, hs32⟩
    refine W.sr fun K33 hK33 => ?_
    refine zE 1 (hK33 _ _ ?_)
    refine W.block ?_
    have hs39 := St.f2 hs23
    have hs40 := St.f1 hs39
    have hs41 := St.f3 hs40
    have hs42 := St.f3 hs41
    refine W.loop_iter (G := Int) (σ := Int) (fun | p34 => p34) (fun | p34, s_, w_ => (∃ us, s_ = slots 63 [(3, (.string tx_)), (8, (zp b7)), (11, (zp b11)), (13, (zi p34))] us) ∧ St B w l0 w_ [zb b7 61 [(.string ByteArray.empty), (zi 0)], refA (ptr vb) img l, zb b11 127 [(zp vb), (zi gw), (zi gi), (zi gb), (zi n_)], zb b4 42 [(zi gw), (zi gi), (zi gb)]]) 0 ⟨slots_intro _ (by kernel_rfl), hs42⟩ hm ?_
    rintro k35 ih36 p34 _ w37 ⟨⟨us, rfl⟩, hs38⟩ hm
    replace hm : rFind15_B0 img l gw gi gb n_ tx_ k35 p34 = some r := hm
    unfold rFind15_B0 at hm
    refine W.seq fun K43 hK43 => ?_
    refine W.sr fun K44 hK44 => ?_
    refine zE 2 (hK44 _ _ ?_)
    refine W.cond (decide (p34 < 12)) (by kernel_rfl) (fun h45 => ?_) (fun h45 => ?_)
    ·
     obtain ⟨h45p, hm⟩ := iY hm h45
     refine W.skip ?_
     refine hK43 _ _ ?_
     refine W.seq fun K46 hK46 => ?_
     refine W.block ?_
     refine W.sr fun K47 hK47 => ?_
     refine zR 1 ?_
     obtain ⟨r48, h49, hm⟩ := bind_some hm
     refine zC00 hs38 (rbegin15_walk (tx_ := tx_) (hm := h49) B _) fun w50 hs52 => ?_
     refine zR 1 ?_
     obtain ⟨h53, hm⟩ := need_some hm
     refine zI _ (wrap_i64 h53.1 h53.2) ?_
     refine zE 2 (hK47 _ _ ?_)
     refine W.sr fun K54 hK54 => ?_
     refine zR 2 ?_
     obtain ⟨r55, h56, hm⟩ := bind_some hm
     refine zC00 hs52 (rAt15_walk (k_ := (r48 + p34).tmod 12) (img := img) (l := l) (gw := gw) (gi := gi) (gb := gb) (n_ := n_) (hmb := (hs52.heapAt 2 rfl)) (hv := (hs52.entAt 1 rfl refA_at)) (hm := h56) B _) fun w57 hs59 => ?_
     refine zR 4 ?_
     refine zN [(.string ByteArray.empty), (zi 0)] 61 hs59 fun b62 w60 hs61 => ?_
     refine zT 0 [(.string r55.1), (zi r55.2.1)] [(.string r55.1), (zi r55.2.1)] hs61 fun w63 hs65 => ?_
     refine zE 2 (hK54 _ _ ?_)
     refine W.seq fun K66 hK66 => ?_
     refine W.sr fun K67 hK67 => ?_
     refine zE 2 (hK67 _ _ ?_)
     refine W.cond (!decide (r55.2.2.2 = 0)) (by kernel_rfl) (fun h68 => ?_) (fun h68 => ?_)
     rotate_left
     ·
      have h68p : r55.2.2.2 = 0 := of_decide_eq_true (bnot_false h68)
      replace hm := ite_yes hm h68p
      refine W.skip ?_
      refine hK66 _ _ ?_
      refine W.seq_join (fun s_ w_ => ∃ (p69 : Bool), (∃ us, s_ = slots 63 [(3, (.string tx_)), (8, (zp b7)), (11, (zp b11)), (13, (zi p34)), (14, (zi ((r48 + p34).tmod 12))), (15, (zp b62)), (59, (.bool p69))] us) ∧ St B w l0 w_ [zb b7 61 [(.string ByteArray.empty), (zi 0)], refA (ptr vb) img l, zb b11 127 [(zp vb), (zi gw), (zi gi), (zi gb), (zi n_)], zb b62 61 [(.string r55.1), (zi r55.2.1)], zb b4 42 [(zi gw), (zi gi), (zi gb)]] ∧ rFind15_J3 k35 p34 r48 r55 p69 = some r) ?_ ?_
      ·
       rintro _ w70 ⟨p69, ⟨us, rfl⟩, hs71, hm⟩
       unfold rFind15_J3 at hm
       refine W.cond p69 (by kernel_rfl) (fun h72 => ?_) (fun h72 => ?_)
       ·
        have h72p : p69 = true := h72
        replace hm := ite_yes hm h72p
        refine W.sr fun K73 hK73 => ?_
        refine zG ⟨b62, 0, none⟩ [(.string r55.1), (zi r55.2.1)] (cells_sub (hs71.heapAt 3 rfl) rfl) ?_
        refine zR 1 ?_
        refine zT 0 [(.string r55.1), (zi r55.2.1)] [(.string r55.1), (zi r55.2.1)] hs71 fun w74 hs76 => ?_
        refine zE 2 (hK73 _ _ ?_)
        refine W.ret (ret_block (ret_seq (ret_seq (ret_block (ret_seq ?_)))))
        obtain rfl := some_inj hm
        have hs77 := St.f1 hs76
        have hs78 := St.tk1 hs77
        refine ret_of (.tuple #[(.agg #[(.string r55.1), (zi r55.2.1)]), (zi ((r48 + p34).tmod 12)), (zi 0)]) (resS_of (by kernel_rfl) (resD_three rfl (.agg (ad := ⟨b7, 0, none⟩) (cs := [(.string r55.1), (zi r55.2.1)]) (by kernel_rfl) (by kernel_rfl) (cells_sub (hs76.heapAt 0 rfl) rfl)) (.tmp (by kernel_rfl)) (.tmp (by kernel_rfl)))) ⟨_, ⟨rfl, rfl⟩, hs78⟩
       have h72p : ¬ (p69 = true) := ne_true_of_eq_false h72
       replace hm := ite_no hm h72p
       refine W.skip ?_
       refine normal_block ?_
       refine hK46 _ _ ?_
       refine W.region ?_
       refine zR 1 ?_
       obtain ⟨h79, hm⟩ := need_some hm
       refine zI _ (wrap_i64 h79.1 h79.2) ?_
       refine zE 1 ?_
       have hs80 := St.f4 hs71
       have hs81 := St.f3 hs80
       have hs82 := St.f3 hs81
       have hs83 := St.f3 hs82
       have hs84 := St.tk4 hs83
       refine loopAt_next ?_
       exact ih36 (p34 + 1) _ _ ⟨slots_intro _ (by kernel_rfl), hs84⟩ hm
      refine W.region ?_
      refine zR 2 ?_
      rcases Bool.eq_false_or_eq_true r55.2.2.1 with h85 | h85
      ·
       have h85p : r55.2.2.1 = true := h85
       replace hm := ite_yes hm h85p
       refine zS 54 h85 ?_
       refine zS 47 h85 ?_
       refine zS 16 h85 ?_
       refine zS 53 h85 ?_
       refine zR 1 ?_
       refine zL ⟨b62, 0, none⟩ (.string r55.1) (hs65.cellAt 0 rfl rfl) ?_
       refine zE 3 ?_
       have hs86 := St.f4 hs65
       have hs87 := St.f1 hs86
       have hs88 := St.f4 hs87
       have hs89 := St.f4 hs88
       have hs90 := St.f4 hs89
       exact ⟨(r55.1.toList == tx_.toList), slots_intro _ (by kernel_rfl), hs90, hm⟩
      have h85p : ¬ (r55.2.2.1 = true) := ne_true_of_eq_false h85
      replace hm := ite_no hm h85p
      refine zS 54 h85 ?_
      refine zS 47 h85 ?_
      refine zS 16 h85 ?_
      refine zS 53 h85 ?_
      refine zE 5 ?_
      have hs91 := St.f4 hs65
      have hs92 := St.f1 hs91
      have hs93 := St.f4 hs92
      have hs94 := St.f4 hs93
      have hs95 := St.f4 hs94
      exact ⟨false, slots_intro _ (by kernel_rfl), hs95, hm⟩
     have h68p : ¬ (r55.2.2.2 = 0) := of_decide_eq_false (bnot_true h68)
     replace hm := ite_no hm h68p
     refine W.sr fun K96 hK96 => ?_
     refine zR 2 ?_
     have hs99 := St.f1 hs65
     refine zT 0 [(.string ByteArray.empty), (zi 0)] [(.string ByteArray.empty), (zi 0)] hs99 fun w97 hs100 => ?_
     refine zE 2 (hK96 _ _ ?_)
     refine W.ret (ret_seq (ret_block (ret_seq (ret_seq (ret_block (ret_seq ?_))))))
     obtain rfl := some_inj hm
     have hs101 := St.f2 hs100
     have hs102 := St.tk1 hs101
     refine ret_of (.tuple #[(.agg #[(.string ByteArray.empty), (zi 0)]), (zi 0), (zi r55.2.2.2)]) (resS_of (by kernel_rfl) (resD_three rfl (.agg (ad := ⟨b7, 0, none⟩) (cs := [(.string ByteArray.empty), (zi 0)]) (by kernel_rfl) (by kernel_rfl) (cells_sub (hs100.heapAt 0 rfl) rfl)) (.tmp (by kernel_rfl)) (.tmp (by kernel_rfl)))) ⟨_, ⟨rfl, rfl⟩, hs102⟩
    obtain ⟨h45p, hm⟩ := iN hm h45
    refine W.exit (exit_seq (exit_seq (exit_here ?_)))
    exact ⟨slots_intro _ (by kernel_rfl), hs38, hm⟩
   have h24p : ¬ (r19 = true) := ne_true_of_eq_false (bnot_true h24)
   replace hm := ite_no hm h24p
   refine W.sr fun K103 hK103 => ?_
   refine zR 1 ?_
   have hs106 := St.f1 hs23
   refine zT 0 [(.string ByteArray.empty), (zi 0)] [(.string ByteArray.empty), (zi 0)] hs106 fun w104 hs107 => ?_
   refine zE 2 (hK103 _ _ ?_)
   refine W.ret (ret_seq ?_)
   obtain rfl := some_inj hm
   have hs108 := St.f3 hs107
   have hs109 := St.tk1 hs108
   refine ret_of (.tuple #[(.agg #[(.string ByteArray.empty), (zi 0)]), (zi 0), (zi 13)]) (resS_of (by kernel_rfl) (resD_three rfl (.agg (ad := ⟨b7, 0, none⟩) (cs := [(.string ByteArray.empty), (zi 0)]) (by kernel_rfl) (by kernel_rfl) (cells_sub (hs107.heapAt 0 rfl) rfl)) (.tmp (by kernel_rfl)) (.tmp (by kernel_rfl)))) ⟨_, ⟨rfl, rfl⟩, hs109⟩
  obtain ⟨h10p, hm⟩ := iN hm h10
  refine zC00 hs6 (rdir_dir (gw := gw) (gi := gi) (gb := gb) (n_ := n_) (hv := (hs6.entAt 2 rfl refA_at)) (hP := h9p) (hK := h10p) B _) fun w110 hs112 => ?_
  refine zE 5 (hK8 _ _ ?_)
  refine W.seq fun K113 hK113 => ?_
  refine W.sr fun K114 hK114 => ?_
  refine zE 2 (hK114 _ _ ?_)
  refine W.cond_true true (by kernel_rfl) rfl ?_
  refine W.sr fun K115 hK115 => ?_
  refine zR 2 ?_
  refine zT 0 [(.string ByteArray.empty), (zi 0)] [(.string ByteArray.empty), (zi 0)] hs112 fun w116 hs118 => ?_
  refine zE 2 (hK115 _ _ ?_)
  refine W.ret (ret_seq ?_)
  obtain rfl := some_inj hm
  have hs119 := St.f2 hs118
  have hs120 := St.tk1 hs119
  refine ret_of (.tuple #[(.agg #[(.string ByteArray.empty), (zi 0)]), (zi 0), (zi 10)]) (resS_of (by kernel_rfl) (resD_three rfl (.agg (ad := ⟨b7, 0, none⟩) (cs := [(.string ByteArray.empty), (zi 0)]) (by kernel_rfl) (by kernel_rfl) (cells_sub (hs118.heapAt 0 rfl) rfl)) (.tmp (by kernel_rfl)) (.tmp (by kernel_rfl)))) ⟨_, ⟨rfl, rfl⟩, hs120⟩
 obtain ⟨h9p, hm⟩ := iN hm h9
 refine zC00 hs6 (rdir_err (gw := gw) (gi := gi) (gb := gb) (n_ := n_) (hv := (hs6.entAt 2 rfl refA_at)) (hN := h9p) B _) fun w121 hs123 => ?_
 refine zR 5 ?_
 obtain ⟨r124, h125, hm⟩ := bind_some hm
 replace h125 := some_inj h125
 refine ops_set 12 (v := .int .i64 r124) (Eq.trans (by kernel_rfl) (congrArg (Value.int .i64) h125)) ?_
 refine zD (hK8 _ _ ?_)
 refine W.seq fun K126 hK126 => ?_
 refine W.sr fun K127 hK127 => ?_
 refine zE 2 (hK127 _ _ ?_)
 refine W.cond (!decide (r124 = 0)) (by kernel_rfl) (fun h128 => ?_) (fun h128 => ?_)
 rotate_left
 ·
  have h128p : r124 = 0 := of_decide_eq_true (bnot_false h128)
  exact absurd h128p (fun e_ => h9p (h125.trans e_))
 have h128p : ¬ (r124 = 0) := of_decide_eq_false (bnot_true h128)
 replace hm := ite_no hm h128p
 refine W.sr fun K129 hK129 => ?_
 refine zR 2 ?_
 refine zT 0 [(.string ByteArray.empty), (zi 0)] [(.string ByteArray.empty), (zi 0)] hs123 fun w130 hs132 => ?_
 refine zE 2 (hK129 _ _ ?_)
 refine W.ret (ret_seq ?_)
 obtain rfl := some_inj hm
 have hs133 := St.f2 hs132
 have hs134 := St.tk1 hs133
 refine ret_of (.tuple #[(.agg #[(.string ByteArray.empty), (zi 0)]), (zi 0), (zi r124)]) (resS_of (by kernel_rfl) (resD_three rfl (.agg (ad := ⟨b7, 0, none⟩) (cs := [(.string ByteArray.empty), (zi 0)]) (by kernel_rfl) (by kernel_rfl) (cells_sub (hs132.heapAt 0 rfl) rfl)) (.tmp (by kernel_rfl)) (.tmp (by kernel_rfl)))) ⟨_, ⟨rfl, rfl⟩, hs134⟩
end Go.Proofs.YtmmclabkkigiaaaGreatDoor

namespace Go.Proofs.YtmmclabkkigiaaaGreatDoor
open Go Go.RowKit
section
variable {gw gi gb n k : Int} {img : List Int} {l : List (Int × Int)}
def nameW (img : List Int) (l : List (Int × Int)) (base : Int) : List Int := (List.range 6).map fun (q : Nat) => vget img l (base + 2 + (q : Int))
theorem nameW_len (base : Int) : (nameW img l base).length = 6 := by unfold nameW; simp
theorem nameW_go {base : Int} (hb : 0 ≤ base ∧ base ≤ 7000) {ρ : Type} {B : (List Int × Int → Option ρ) → List Int × Int → Option ρ} {fin : List Int → Option ρ} {r : ρ}
    (hB : ∀ (c : List Int × Int → Option ρ) (q : List Int) (p : Int), 2 ≤ p → q.length = (p - 2).toNat → B c (q, p) = if p < 8 then c (q ++ [vget img l (base + p)], p + 1) else fin q) (hf : fin (nameW img l base) = some r) : iter B FUEL ([], 2) = some r := by
  refine iter_run (fun s : List Int × Int => (2 ≤ s.2 ∧ s.2 ≤ 8) ∧ s.1 = (List.range (s.2 - 2).toNat).map fun (q : Nat) => vget img l (base + 2 + (q : Int))) (fun s => (8 - s.2).toNat) ?_ _ _ ⟨by simp, rfl⟩ (fuel_lt (by simp only; omega))
  rintro c ⟨q, p⟩ ⟨h1, h2⟩ ih
  simp only at h1 h2 ih
  rw [hB c q p h1.1 (by rw [h2, List.length_map, List.length_range])]
  by_cases hp : p < 8
  · rw [if_pos hp]
    refine ih _ ⟨by simp only; omega, ?_⟩ (by simp only; omega)
    simp only
    rw [h2, show (p + 1 - 2).toNat = (p - 2).toNat + 1 by omega, List.range_succ, List.map_append]
    congr 1
    simp only [List.map_cons, List.map_nil]
    congr 2
    omega
  · rw [if_neg hp]
    have : q = nameW img l base := by
      rw [h2, show (p - 2).toNat = 6 by omega]
      rfl
    rw [this]
    exact hf
theorem mayB_nil : mayB (strOfNums []) = false := by decide +kernel
theorem ent_eq (hv : VI img l) (hl : img.length ≤ 6232) (hk : 0 ≤ k ∧ k < 12) : ∃ x : ByteArray × Int × Bool × Int, rAt15_M img l gw gi gb n k = some x ∧ tentry_M img l gw gi gb n k = some (x.1, x.2.1, x.2.2.2) ∧
    ((x.2.2.1 = true ∧ x.2.2.2 = 0 ∧ mayB x.1 = true ∧ (1 ≤ x.2.1 ∧ x.2.1 < gi)) ∨ (x.2.2.1 = false ∧ x.1 = ByteArray.empty ∧ x.2.1 = 0)) ∧ ((igetM img l gw gi gb n).2 = 0 → x.2.2.2 = 0 ∨ x.2.2.2 = 4) ∧ (x.2.2.2 = 0 → ∃ a : Int × Int, bat_M img l gw gi gb n k = some a ∧ a.2 = 0) := by
  obtain ⟨a, e1, e2, hr⟩ := at_eq (gw := gw) (gi := gi) (gb := gb) (n := n) hv hl hk
  unfold rAt15_M tentry_M
  rw [e1, e2]
  simp only [Option.bind]
  have done : ∃ x : ByteArray × Int × Bool × Int, rAt15_J1 img l gw gi gb k a true = some x ∧ tentry_J1 img l gw gi gb k a true = some (x.1, x.2.1, x.2.2.2) ∧
    ((x.2.2.1 = true ∧ x.2.2.2 = 0 ∧ mayB x.1 = true ∧ (1 ≤ x.2.1 ∧ x.2.1 < gi)) ∨ (x.2.2.1 = false ∧ x.1 = ByteArray.empty ∧ x.2.1 = 0)) ∧ ((igetM img l gw gi gb n).2 = 0 → x.2.2.2 = 0 ∨ x.2.2.2 = 4) ∧ (x.2.2.2 = 0 → ∃ a' : Int × Int, some a = some a' ∧ a'.2 = 0) := by
    unfold rAt15_J1 tentry_J1
    rw [if_pos rfl, if_pos rfl]
    refine ⟨_, rfl, rfl, .inr ⟨rfl, rfl, rfl⟩, fun q => ?_, fun q => ⟨a, rfl, q⟩⟩
    rcases hr with ⟨_, b, _⟩ | ⟨_, b, _⟩
    · exact absurd q b
    · exact b
  by_cases h2 : a.2 = 0
  · simp only [if_pos h2]
    by_cases h1 : a.1 = 0
    · rw [decide_eq_true h1]
      exact done
    · rw [decide_eq_false h1]
      have h0 : (igetM img l gw gi gb n).2 = 0 ∧ (0 ≤ a.1 ∧ a.1 < gb) := by
        rcases hr with ⟨a, b, _⟩ | ⟨a, _, b, _⟩
        · omega
        · exact ⟨a, b⟩
      have g := gt_of hv hl h0.1
      have hg := may_out g.may
      unfold rAt15_J1 tentry_J1
      simp only [Bool.false_eq_true, if_false]
      rw [place9_at g.may h0.2]
      simp only [Option.bind]
      obtain ⟨base, hbase⟩ : ∃ base, base = 280 + 208 * gw + 16 * gi + 8 * a.1 := ⟨_, rfl⟩
      rw [← hbase]
      have hb : 0 ≤ base ∧ base ≤ 7000 := by omega
      have q1 : -9223372036854775808 ≤ base + 1 ∧ base + 1 ≤ 9223372036854775807 := by omega
      have q2 : 0 ≤ gi ∧ gi ≤ 18446744073709551615 := by omega
      simp only [need, if_pos q1, if_pos q2]
      have u0 := hv.1 base
      have u1 := hv.1 (base + 1)
      unfold U64 at u0 u1
      have ok0 : ∃ a' : Int × Int, some a = some a' ∧ a'.2 = 0 := ⟨a, rfl, h2⟩
      have bad : ∃ x : ByteArray × Int × Bool × Int, rAt15_J2 img l k base true = some x ∧ tentry_J2 img l k base true = some (x.1, x.2.1, x.2.2.2) ∧
        ((x.2.2.1 = true ∧ x.2.2.2 = 0 ∧ mayB x.1 = true ∧ (1 ≤ x.2.1 ∧ x.2.1 < gi)) ∨ (x.2.2.1 = false ∧ x.1 = ByteArray.empty ∧ x.2.1 = 0)) ∧ ((igetM img l gw gi gb n).2 = 0 → x.2.2.2 = 0 ∨ x.2.2.2 = 4) ∧ (x.2.2.2 = 0 → ∃ a' : Int × Int, some a = some a' ∧ a'.2 = 0) := by
        unfold rAt15_J2 tentry_J2
        rw [if_pos rfl, if_pos rfl]
        exact ⟨_, rfl, rfl, .inr ⟨rfl, rfl, rfl⟩, fun _ => .inr rfl, fun q => by cases q⟩
      by_cases hv0 : vget img l base < 1
      · simp only [if_pos hv0]
        exact bad
      by_cases hvg : vget img l base ≥ gi
      · simp only [if_neg hv0, if_pos hvg]
        exact bad
      simp only [if_neg hv0, if_neg hvg]
      have hW := nameW_len (img := img) (l := l) base
      have T : vget img l (base + 1) ≤ 40 → tentry_J2 img l k base false = some (if mayB (strOfNums (bytesF (nameW img l base) (vget img l (base + 1)).toNat)) = true then (strOfNums (bytesF (nameW img l base) (vget img l (base + 1)).toNat), vget img l base, 0) else (ByteArray.empty, 0, 4)) := by
        intro h40
        unfold tentry_J2
        rw [if_neg (by decide)]
        refine nameW_go (img := img) (l := l) (base := base) hb (fin := fun q => tentry_J3 img l base q) (fun c q p hp hq => ?_) ?_
        · show tentry_B0 img l base c q p = _
          unfold tentry_B0
          by_cases hp8 : p < 8
          · rw [if_pos hp8, if_pos hp8]
            exact need_of (by omega) (need_of (by omega) (need_of (by omega) rfl))
          · rw [if_neg hp8, if_neg hp8]
        · show tentry_J3 img l base (nameW img l base) = _
          unfold tentry_J3
          have hu := unpack_eq (ws := nameW img l base) (n := vget img l (base + 1)) (by omega) (by omega) (by omega)
          refine need_of (by omega) (bind_of hu ?_)
          rw [if_pos rfl]
          refine bind_of (emay_eq _) ?_
          unfold tentry_J4
          cases hm : mayB (strOfNums (bytesF (nameW img l base) (vget img l (base + 1)).toNat)) with
          | true =>
            rw [if_neg (by decide), if_pos rfl]
            exact need_of (by omega) rfl
          | false => rfl
      have R : vget img l (base + 1) ≤ 40 → rAt15_J2 img l k base false = some (if mayB (strOfNums (bytesF (nameW img l base) (vget img l (base + 1)).toNat)) = true then (strOfNums (bytesF (nameW img l base) (vget img l (base + 1)).toNat), vget img l base, true, 0) else (ByteArray.empty, 0, false, 4)) := by
        intro h40
        unfold rAt15_J2
        rw [if_neg (by decide)]
        refine nameW_go (img := img) (l := l) (base := base) hb (fin := fun q => rAt15_J3 img l base q) (fun c q p hp hq => ?_) ?_
        · show rAt15_B0 img l base c q p = _
          unfold rAt15_B0
          by_cases hp8 : p < 8
          · rw [if_pos hp8, if_pos hp8]
            exact need_of (by omega) (need_of (by omega) (need_of (by omega) rfl))
          · rw [if_neg hp8, if_neg hp8]
        · show rAt15_J3 img l base (nameW img l base) = _
          unfold rAt15_J3
          have hu := runpack_eq (ws := nameW img l base) (n := vget img l (base + 1)) (by omega) (by omega) (by omega)
          refine need_of (by omega) (bind_of hu ?_)
          refine bind_of (rmay15_eq _) ?_
          cases hm : mayB (strOfNums (bytesF (nameW img l base) (vget img l (base + 1)).toNat)) with
          | true =>
            rw [if_pos rfl, if_pos rfl]
            exact need_of (by omega) rfl
          | false => rfl
      by_cases h1v : vget img l (base + 1) < 1
      · simp only [if_pos h1v]
        rw [decide_eq_false (show ¬ vget img l (base + 1) > 40 by omega), T (by omega), show (vget img l (base + 1)).toNat = 0 by omega]
        have e0 : bytesF (nameW img l base) 0 = [] := rfl
        rw [e0, mayB_nil, if_neg (by decide)]
        unfold rAt15_J2
        rw [if_pos rfl]
        exact ⟨_, rfl, rfl, .inr ⟨rfl, rfl, rfl⟩, fun _ => .inr rfl, fun q => by cases q⟩
      simp only [if_neg h1v]
      by_cases h40 : vget img l (base + 1) > 40
      · rw [decide_eq_true h40]
        exact bad
      · rw [decide_eq_false h40, T (by omega), R (by omega)]
        generalize strOfNums (bytesF (nameW img l base) (vget img l (base + 1)).toNat) = s
        cases hm : mayB s with
        | true =>
          simp only [if_true]
          exact ⟨_, rfl, rfl, .inl ⟨rfl, rfl, hm, by simp only; omega⟩, fun _ => .inl rfl, fun _ => ok0⟩
        | false =>
          simp only [Bool.false_eq_true, if_false]
          exact ⟨_, rfl, rfl, .inr ⟨rfl, rfl, rfl⟩, fun _ => .inr rfl, fun q => by cases q⟩
  · simp only [if_neg h2]
    exact done
theorem find_go (hv : VI img l) (hl : img.length ≤ 6232) (h0 : (igetM img l gw gi gb n).2 = 0) {tx : ByteArray} (hm : mayB tx = true) {b : Nat} (hb : b < 12) (he : ebegin_M tx = some (b : Int)) : ∀ (t k N : Nat), k + t = 12 → t < N →
    ∃ x : ByteArray × Int × Int × Int, rounds (fun k_ c_ (s_ : Unit) => tfind_R40 img l gw gi gb n tx (b : Int) k_ c_) (fun s_ => tfind_D40) t k () = some x ∧ iter (fun k_ s_ => rFind15_B0 img l gw gi gb n tx k_ s_) N (k : Int) = some x ∧
      (x.2.2.2 = 0 → 0 ≤ x.2.2.1 ∧ x.2.2.1 < 12) ∧ (x.2.2.2 = 6 → ∀ j, k ≤ j → j < 12 → ∃ a : Int × Int, bat_M img l gw gi gb n (((b + j) % 12 : Nat) : Int) = some a ∧ a.2 = 0) ∧ (x.2.2.2 = 0 ∨ x.2.2.2 = 4 ∨ x.2.2.2 = 6) := by
  intro t
  induction t with
  | zero =>
    intro k N hk hN
    obtain ⟨m, rfl⟩ : ∃ m, N = m + 1 := ⟨N - 1, by omega⟩
    refine ⟨(ByteArray.empty, 0, 0, 6), rfl, ?_, fun q => (by cases q), fun _ j h1 h2 => (by omega), .inr (.inr rfl)⟩
    show rFind15_B0 img l gw gi gb n tx (iter _ m) (k : Int) = _
    unfold rFind15_B0
    rw [if_neg (by omega)]
    rfl
  | succ t ih =>
    intro k N hk hN
    obtain ⟨m, rfl⟩ : ∃ m, N = m + 1 := ⟨N - 1, by omega⟩
    obtain ⟨y, i1, i2, i3, i4, i5⟩ := ih (k + 1) m (by omega) (by omega)
    obtain ⟨x, e1, e2, e3, e4, e5⟩ := ent_eq (gw := gw) (gi := gi) (gb := gb) (n := n) (k := (((b + k) % 12 : Nat) : Int)) hv hl (by omega)
    have ez : (((b : Nat) : Int) + (k : Int)) % 12 = (((b + k) % 12 : Nat) : Int) := by omega
    have et : (((b : Nat) : Int) + (k : Int)).tmod 12 = (((b + k) % 12 : Nat) : Int) := by rw [Int.tmod_eq_emod_of_nonneg (by omega)]; omega
    have e4' := e4 h0
    obtain ⟨c1, hc1⟩ : ∃ c1, c1 = rounds (fun k_ c_ (s_ : Unit) => tfind_R40 img l gw gi gb n tx (b : Int) k_ c_) (fun s_ => tfind_D40) t (k + 1) := ⟨_, rfl⟩
    obtain ⟨c2, hc2⟩ : ∃ c2, c2 = iter (fun k_ s_ => rFind15_B0 img l gw gi gb n tx k_ s_) m := ⟨_, rfl⟩
    rw [← hc1] at i1
    rw [← hc2] at i2
    have L : rounds (fun k_ c_ (s_ : Unit) => tfind_R40 img l gw gi gb n tx (b : Int) k_ c_) (fun s_ => tfind_D40) (t + 1) k () = (if x.2.2.2 = 0 then (if x.1 = tx ∧ x.2.1 = x.2.1 then some (x.1, x.2.1, (((b + k) % 12 : Nat) : Int), 0) else some y) else some (ByteArray.empty, 0, 0, x.2.2.2)) := by
      show tfind_R40 img l gw gi gb n tx (b : Int) k (rounds (fun k_ c_ (s_ : Unit) => tfind_R40 img l gw gi gb n tx (b : Int) k_ c_) (fun s_ => tfind_D40) t (k + 1)) = _
      rw [← hc1]
      unfold tfind_R40
      refine bind_of rfl ?_
      rw [ez]
      refine bind_of e2 ?_
      rw [i1]
      rfl
    have Rr : iter (fun k_ s_ => rFind15_B0 img l gw gi gb n tx k_ s_) (m + 1) (k : Int) = (if x.2.2.2 = 0 then (if x.2.2.1 = true ∧ x.1 = tx then some (x.1, x.2.1, (((b + k) % 12 : Nat) : Int), 0) else some y) else some (ByteArray.empty, 0, 0, x.2.2.2)) := by
      show rFind15_B0 img l gw gi gb n tx (iter (fun k_ s_ => rFind15_B0 img l gw gi gb n tx k_ s_) m) (k : Int) = _
      rw [← hc2]
      unfold rFind15_B0
      rw [if_pos (by omega), rbegin15_eq]
      refine bind_of he (need_of (by omega) ?_)
      rw [et]
      refine bind_of e1 ?_
      have go : rFind15_J3 c2 (k : Int) (b : Int) x false = some y := by
        unfold rFind15_J3
        rw [if_neg (by decide)]
        exact need_of (by omega) i2
      by_cases hx0 : x.2.2.2 = 0
      · simp only [if_pos hx0]
        by_cases his : x.2.2.1 = true
        · simp only [if_pos his]
          by_cases hn : x.1 = tx
          · rw [if_pos ⟨his, hn⟩, toList_iff.2 hn]
            unfold rFind15_J3
            rw [if_pos rfl, et]
          · have : (x.1.toList == tx.toList) = false := by
              cases hq : (x.1.toList == tx.toList) with
              | false => rfl
              | true => exact absurd (toList_iff.1 hq) hn
            rw [if_neg fun q => hn q.2, this]
            exact go
        · rw [if_neg his, if_neg fun q => his q.1]
          exact go
      · simp only [if_neg hx0]
    rw [L, Rr]
    by_cases hx0 : x.2.2.2 = 0
    · simp only [if_pos hx0]
      by_cases hn : x.1 = tx
      · have his : x.2.2.1 = true := by
          rcases e3 with ⟨a, _⟩ | ⟨_, a, _⟩
          · exact a
          · have h1 := (mayB_iff.1 hm).1
            rw [← hn, a] at h1
            simp at h1
        rw [if_pos ⟨hn, trivial⟩, if_pos ⟨his, hn⟩]
        exact ⟨_, rfl, rfl, fun _ => (by simp only; omega), fun q => (by cases q), .inl rfl⟩
      · rw [if_neg fun q => hn q.1, if_neg fun q => hn q.2]
        refine ⟨y, rfl, rfl, i3, fun q j h1 h2 => ?_, i5⟩
        by_cases ej : j = k
        · rw [ej]; exact e5 hx0
        · exact i4 q j (by omega) h2
    · simp only [if_neg hx0]
      refine ⟨_, rfl, rfl, fun q => absurd q hx0, fun q => ?_, ?_⟩
      · simp only at q; omega
      · simp only; omega
theorem iget_err : ((igetM img l gw gi gb n).2 = 0 ∨ (igetM img l gw gi gb n).2 = 1 ∨ (igetM img l gw gi gb n).2 = 4 ∨ (igetM img l gw gi gb n).2 = 8) := by
  have := ifind_range img.length gw gi gb n
  unfold igetM
  split
  · split
    · exact .inl rfl
    · exact .inr (.inr (.inl rfl))
  · simp only; omega
theorem find_eq (hv : VI img l) (hl : img.length ≤ 6232) (tx : ByteArray) : ∃ x : ByteArray × Int × Int × Int, eFind_M img l gw gi gb n tx = some x ∧ rFind15_M img l gw gi gb n tx = some x ∧
    (((igetM img l gw gi gb n).2 ≠ 0 ∧ x.2.2.2 = (igetM img l gw gi gb n).2) ∨ ((igetM img l gw gi gb n).2 = 0 ∧ (igetM img l gw gi gb n).1.k ≠ 2 ∧ x.2.2.2 = 10) ∨ ((igetM img l gw gi gb n).2 = 0 ∧ (igetM img l gw gi gb n).1.k = 2 ∧ tfind_M img l gw gi gb n tx = some x ∧
      (x.2.2.2 = 0 → 0 ≤ x.2.2.1 ∧ x.2.2.1 < 12) ∧ (x.2.2.2 = 6 → mayB tx = true ∧ ∀ k : Nat, k < 12 → ∃ a : Int × Int, bat_M img l gw gi gb n (k : Int) = some a ∧ a.2 = 0))) ∧ (x.2.2.2 = 6 → (igetM img l gw gi gb n).2 = 0 ∧ (igetM img l gw gi gb n).1.k = 2) := by
  have her := iget_err (img := img) (l := l) (gw := gw) (gi := gi) (gb := gb) (n := n)
  unfold eFind_M rFind15_M
  by_cases h0 : (igetM img l gw gi gb n).2 = 0
  · simp only [if_pos h0]
    by_cases hk : (igetM img l gw gi gb n).1.k = 2
    · simp only [if_pos hk]
      rw [rmay15_eq]
      unfold tfind_M
      rw [emay_eq]
      simp only [Option.bind]
      cases hm : mayB tx with
      | false =>
        simp only [Bool.false_eq_true, if_false]
        exact ⟨_, rfl, rfl, .inr (.inr ⟨h0, hk, rfl, fun q => (by cases q), fun q => (by cases q)⟩), fun q => (by cases q)⟩
      | true =>
        simp only [if_true]
        obtain ⟨b, hb, he⟩ := ebegin_range tx
        obtain ⟨x, e1, e2, e3, e4, e5⟩ := find_go hv hl h0 hm hb he 12 0 FUEL rfl (fuel_lt (by omega))
        rw [he]
        have hbn : (0 : Int) ≤ (b : Int) ∧ (b : Int) ≤ 12 := by omega
        simp only [need, if_pos hbn]
        rw [e1]
        refine ⟨x, rfl, e2, .inr (.inr ⟨h0, hk, rfl, e3, fun q => ⟨trivial, fun k hk => ?_⟩⟩), fun _ => ⟨h0, hk⟩⟩
        have := e4 q ((k + 12 - b) % 12) (by omega) (by omega)
        rw [show (b + (k + 12 - b) % 12) % 12 = k by omega] at this
        exact this
    · simp only [if_neg hk]
      exact ⟨_, rfl, rfl, .inr (.inl ⟨h0, hk, rfl⟩), fun q => by cases q⟩
  · simp only [if_neg h0, Option.bind]
    refine ⟨_, rfl, rfl, .inl ⟨h0, rfl⟩, fun q => ?_⟩
    simp only at q
    omega
end
end Go.Proofs.YtmmclabkkigiaaaGreatDoor

set_option maxRecDepth 20000
set_option maxHeartbeats 8000000
namespace Go.Proofs.YtmmclabkkigiaaaGreatDoor
open Go Go.RowKit
def rAdd15_B0 (img : List Int) (l : List (Int × Int)) (gw : Int) (gi : Int) (gb : Int) (n_ : Int) (xn_ : ByteArray) (xi_ : Int) (k38 : Int → Option (Int × List (Int × Int))) (p37 : Int) : Option (Int × List (Int × Int)) :=
 if p37 < 12 then ((rbegin15_M xn_).bind fun r52 =>
need (-9223372036854775808 ≤ (r52 + p37) ∧ (r52 + p37) ≤ 9223372036854775807) <|
(rat13_M img l gw gi gb n_ ((r52 + p37).tmod 12)).bind fun r59 =>
if r59.1 = 0 then (need ((img.length : Int) ≤ 1000000000000) <|
if May gw gi gb ∧ wordsOf gw gi gb ≤ (img.length : Int) then ((rfree_M img l gi gb (placeOf 6 gw gi gb 0) (placeOf 7 gw gi gb 0)).bind fun r79 =>
(rneed13_M img l gw gi gb n_ ((r52 + p37).tmod 12)).bind fun r86 =>
if r79.2 < r86 then (some (7, l)) else ((rTake13_M img l gw gi gb n_ ((r52 + p37).tmod 12)).bind fun r96 =>
if r96.2.1 = 0 then (need (0 ≤ xi_ ∧ xi_ ≤ 18446744073709551615) <|
need (0 ≤ (xn_.size : Int) ∧ (xn_.size : Int) ≤ 18446744073709551615) <|
(rpack_M xn_).bind fun r142 =>
need (r142.length ≤ 1000000) <|
need ((([xi_, (xn_.size : Int)] ++ r142) : List Int).length ≤ 1000000) <|
need (-1 ≤ (placeOf 9 gw gi gb r96.1) ∧ (placeOf 9 gw gi gb r96.1) ≤ 1000000) <|
(some (vwrites img (placeOf 9 gw gi gb r96.1) r96.2.2 0 ([xi_, (xn_.size : Int)] ++ r142))).bind fun r172 =>
some (r172.1, r172.2)) else (some (r96.2.1, r96.2.2)))) else ((some (if May gw gi gb then (8 : Int) else 1)).bind fun r325 =>
if r325 = 0 then (none) else (some (r325, l)))) else (need (-9223372036854775808 ≤ (p37 + 1) ∧ (p37 + 1) ≤ 9223372036854775807) <|
k38 (p37 + 1))) else (some (16, l))
def rAdd15_J1 (img : List Int) (l : List (Int × Int)) (gw : Int) (gi : Int) (gb : Int) (n_ : Int) (xn_ : ByteArray) (xi_ : Int) : Option (Int × List (Int × Int)) :=
 (rFind15_M img l gw gi gb n_ xn_).bind fun r11 =>
if r11.2.2.2 = 0 then (some (9, l)) else (if r11.2.2.2 = 6 then (iter (fun k_ s_ => rAdd15_B0 img l gw gi gb n_ xn_ xi_ k_ s_) FUEL 0) else (some (r11.2.2.2, l)))
def rAdd15_M (img : List Int) (l : List (Int × Int)) (gw : Int) (gi : Int) (gb : Int) (n_ : Int) (xn_ : ByteArray) (xi_ : Int) : Option (Int × List (Int × Int)) :=
 if May gw gi gb then (if xi_ < 1 then (some (1, l)) else (if xi_ ≥ gi then (some (1, l)) else (rAdd15_J1 img l gw gi gb n_ xn_ xi_))) else (rAdd15_J1 img l gw gi gb n_ xn_ xi_)
theorem rAdd15_walk {img : List Int} {l : List (Int × Int)} {gw : Int} {gi : Int} {gb : Int} {n_ : Int} {xn_ : ByteArray} {xi_ : Int} {vb : Nat} {r : Int × List (Int × Int)} (B : Nat) (w : World) (hm : rAdd15_M img l gw gi gb n_ xn_ xi_ = some r) : Spec Tryz.prog 29 #[(zp vb), (.agg #[(zi gw), (zi gi), (zi gb)]), (zi n_), (.agg #[(.string xn_), (zi xi_)])] B w [refA (ptr vb) img l] (fun v H' => v = .int .i64 r.1 ∧ H' = [refA (ptr vb) img r.2]) := by
 refine spec_W Tryz.func29 rfl fun l0 hs => ?_
 unfold rAdd15_M at hm
 refine W.sr fun K1 hK1 => ?_
 refine zN [(zi gw), (zi gi), (zi gb)] 42 hs fun b4 w2 hs3 => ?_
 refine zN [(.string xn_), (zi xi_)] 61 hs3 fun b7 w5 hs6 => ?_
 refine zE 1 (hK1 _ _ ?_)
 refine W.seq_join (fun s_ w_ => (∃ us, s_ = slots 118 [(0, (zp vb)), (2, (zi n_)), (5, (zp b4)), (7, (zp b7))] us) ∧ St B w l0 w_ [refA (ptr vb) img l, zb b4 42 [(zi gw), (zi gi), (zi gb)], zb b7 61 [(.string xn_), (zi xi_)]] ∧ rAdd15_J1 img l gw gi gb n_ xn_ xi_ = some r) ?_ ?_
 ·
  rintro _ w8 ⟨⟨us, rfl⟩, hs9, hm⟩
  unfold rAdd15_J1 at hm
  refine W.sr fun K10 hK10 => ?_
  refine zR 1 ?_
  refine zG ⟨b4, 0, none⟩ [(zi gw), (zi gi), (zi gb)] (cells_sub (hs9.heapAt 1 rfl) rfl) ?_
  refine zR 2 ?_
  refine zL ⟨b7, 0, none⟩ (.string xn_) (hs9.cellAt 2 rfl rfl) ?_
  obtain ⟨r11, h12, hm⟩ := bind_some hm
  refine zC11 hs9 (rFind15_walk (vb := vb) (gw := gw) (gi := gi) (gb := gb) (n_ := n_) (tx_ := xn_) (img := img) (l := l) (hm := h12) B _) fun w13 hs15 => ?_
  refine zR 4 ?_
  refine zN [(.string ByteArray.empty), (zi 0)] 61 hs15 fun b18 w16 hs17 => ?_
  refine zT 0 [(.string r11.1), (zi r11.2.1)] [(.string r11.1), (zi r11.2.1)] hs17 fun w19 hs21 => ?_
  refine zE 2 (hK10 _ _ ?_)
  refine W.seq fun K22 hK22 => ?_
  refine W.sr fun K23 hK23 => ?_
  refine zE 2 (hK23 _ _ ?_)
  refine W.cond (decide (r11.2.2.2 = 0)) (by kernel_rfl) (fun h24 => ?_) (fun h24 => ?_)
  ·
   obtain ⟨h24p, hm⟩ := iY hm h24
   refine W.sr fun K25 hK25 => ?_
   refine zE 1 (hK25 _ _ ?_)
   refine W.ret (ret_seq ?_)
   obtain rfl := some_inj hm
   have hs26 := St.f1 hs21
   have hs27 := St.tk1 hs26
   refine ret_of (zi 9) (by kernel_rfl) ⟨_, ⟨rfl, rfl⟩, hs27⟩
  obtain ⟨h24p, hm⟩ := iN hm h24
  refine W.skip ?_
  refine hK22 _ _ ?_
  refine W.seq fun K28 hK28 => ?_
  refine W.sr fun K29 hK29 => ?_
  refine zE 2 (hK29 _ _ ?_)
  refine W.cond (!decide (r11.2.2.2 = 6)) (by kernel_rfl) (fun h30 => ?_) (fun h30 => ?_)
  rotate_left
  ·
   have h30p : r11.2.2.2 = 6 := of_decide_eq_true (bnot_false h30)
   replace hm := ite_yes hm h30p
   refine W.skip ?_
   refine hK28 _ _ ?_
   refine W.sr fun K31 hK31 => ?_
   refine zR 1 ?_
   refine zG ⟨b4, 0, none⟩ [(zi gw), (zi gi), (zi gb)] (cells_sub (hs21.heapAt 2 rfl) rfl) ?_
   refine zR 2 ?_
   refine zN [(zp vb), (zi gw), (zi gi), (zi gb), (zi n_)] 127 hs21 fun b34 w32 hs33 => ?_
   refine zE 1 (hK31 _ _ ?_)
   refine W.seq fun K35 hK35 => ?_
   refine W.sr fun K36 hK36 => ?_
   refine zE 1 (hK36 _ _ ?_)
   refine W.block ?_
   have hs42 := St.f1 hs33
   have hs43 := St.f1 hs42
   have hs44 := St.f4 hs43
   have hs45 := St.f4 hs44
   have hs46 := St.f4 hs45
   refine W.loop_iter (G := Int) (σ := Int) (fun | p37 => p37) (fun | p37, s_, w_ => (∃ us, s_ = slots 118 [(0, (zp vb)), (5, (zp b4)), (7, (zp b7)), (12, (zp b34)), (13, (zi p37))] us) ∧ St B w l0 w_ [refA (ptr vb) img l, zb b4 42 [(zi gw), (zi gi), (zi gb)], zb b7 61 [(.string xn_), (zi xi_)], zb b34 127 [(zp vb), (zi gw), (zi gi), (zi gb), (zi n_)], zb b18 61 [(.string r11.1), (zi r11.2.1)]]) 0 ⟨slots_intro _ (by kernel_rfl), hs46⟩ hm ?_
   rintro k38 ih39 p37 _ w40 ⟨⟨us, rfl⟩, hs41⟩ hm
   replace hm : rAdd15_B0 img l gw gi gb n_ xn_ xi_ k38 p37 = some r := hm
   unfold rAdd15_B0 at hm
   refine W.seq fun K47 hK47 => ?_
   refine W.sr fun K48 hK48 => ?_
   refine zE 2 (hK48 _ _ ?_)
   refine W.cond (decide (p37 < 12)) (by kernel_rfl) (fun h49 => ?_) (fun h49 => ?_)
   ·
    obtain ⟨h49p, hm⟩ := iY hm h49
    refine W.skip ?_
    refine hK47 _ _ ?_
    refine W.seq fun K50 hK50 => ?_
    refine W.block ?_
    refine W.sr fun K51 hK51 => ?_
    refine zR 1 ?_
    refine zL ⟨b7, 0, none⟩ (.string xn_) (hs41.cellAt 2 rfl rfl) ?_
    obtain ⟨r52, h53, hm⟩ := bind_some hm
    refine zC00 hs41 (rbegin15_walk (tx_ := xn_) (hm := h53) B _) fun w54 hs56 => ?_
    refine zR 1 ?_
    obtain ⟨h57, hm⟩ := need_some hm
    refine zI _ (wrap_i64 h57.1 h57.2) ?_
    refine zE 2 (hK51 _ _ ?_)
    refine W.sr fun K58 hK58 => ?_
    refine zR 2 ?_
    obtain ⟨r59, h60, hm⟩ := bind_some hm
    refine zC00 hs56 (rat13_walk (k_ := (r52 + p37).tmod 12) (img := img) (l := l) (gw := gw) (gi := gi) (gb := gb) (n_ := n_) (hmb := (hs56.heapAt 3 rfl)) (hv := (hs56.entAt 0 rfl refA_at)) (hm := h60) B _) fun w61 hs63 => ?_
    refine zE 5 (hK58 _ _ ?_)
    refine W.seq fun K64 hK64 => ?_
    refine W.sr fun K65 hK65 => ?_
    refine zE 2 (hK65 _ _ ?_)
    refine W.cond (!decide (r59.1 = 0)) (by kernel_rfl) (fun h66 => ?_) (fun h66 => ?_)
    rotate_left
    ·
     have h66p : r59.1 = 0 := of_decide_eq_true (bnot_false h66)
     replace hm := ite_yes hm h66p
     refine W.skip ?_
     refine hK64 _ _ ?_
     refine W.sr fun K67 hK67 => ?_
     refine zR 1 ?_
     refine zG ⟨b4, 0, none⟩ [(zi gw), (zi gi), (zi gb)] (cells_sub (hs63.heapAt 1 rfl) rfl) ?_
     obtain ⟨h68, hm⟩ := need_some hm
     rcases Bool.eq_false_or_eq_true (decide (May gw gi gb ∧ wordsOf gw gi gb ≤ (img.length : Int))) with h69 | h69
     ·
      obtain ⟨h69p, hm⟩ := iY hm h69
      refine ops_call0 hs63 (by kernel_rfl) (rnew_ok (gw := gw) (gi := gi) (gb := gb) (hv := (hs63.entAt 0 rfl refA_at)) (hz := h68) (hP := h69p) B _) ?_
      rintro _ _ w73 ⟨b70, b71, b72, rfl, rfl⟩ hs74
      have hs75 := St.ap3 hs74
      refine zE 5 (hK67 _ _ ?_)
      refine W.seq fun K76 hK76 => ?_
      refine W.sr fun K77 hK77 => ?_
      refine zE 2 (hK77 _ _ ?_)
      refine W.cond_false false (by kernel_rfl) rfl ?_
      refine W.skip ?_
      refine hK76 _ _ ?_
      refine W.sr fun K78 hK78 => ?_
      refine zR 1 ?_
      obtain ⟨r79, h80, hm⟩ := bind_some hm
      refine zC00 hs75 (rfree_walk (hab := (hs75.heapAt 0 rfl)) (hib := (hs75.heapAt 1 rfl)) (hbb := (hs75.heapAt 2 rfl)) (hv := (hs75.entAt 3 rfl refA_at)) (hm := h80) B _) fun w81 hs83 => ?_
      refine zE 5 (hK78 _ _ ?_)
      refine W.seq fun K84 hK84 => ?_
      refine W.sr fun K85 hK85 => ?_
      refine zR 3 ?_
      obtain ⟨r86, h87, hm⟩ := bind_some hm
      refine zC00 hs83 (rneed13_walk (k_ := (r52 + p37).tmod 12) (img := img) (l := l) (gw := gw) (gi := gi) (gb := gb) (n_ := n_) (hmb := (hs83.heapAt 6 rfl)) (hv := (hs83.entAt 3 rfl refA_at)) (hm := h87) B _) fun w88 hs90 => ?_
      refine zE 1 (hK85 _ _ ?_)
      refine W.cond (decide (r79.2 < r86)) (by kernel_rfl) (fun h91 => ?_) (fun h91 => ?_)
      ·
       obtain ⟨h91p, hm⟩ := iY hm h91
       refine W.sr fun K92 hK92 => ?_
       refine zE 1 (hK92 _ _ ?_)
       refine W.ret (ret_seq (ret_block (ret_seq (ret_seq (ret_block (ret_seq ?_))))))
       obtain rfl := some_inj hm
       have hs93 := St.f3 hs90
       have hs94 := St.tk1 hs93
       refine ret_of (zi 7) (by kernel_rfl) ⟨_, ⟨rfl, rfl⟩, hs94⟩
      obtain ⟨h91p, hm⟩ := iN hm h91
      refine W.skip ?_
      refine hK84 _ _ ?_
      refine W.sr fun K95 hK95 => ?_
      refine zR 2 ?_
      obtain ⟨r96, h97, hm⟩ := bind_some hm
      have hs98 := St.f3 hs90
      have hs99 := St.f6 hs98
      refine zC22 hs99 (rTake13_walk (mb := b34) (vb := vb) (k_ := (r52 + p37).tmod 12) (img := img) (l := l) (gw := gw) (gi := gi) (gb := gb) (n_ := n_) (hm := h97) B _) fun w100 hs102 => ?_
      refine zE 5 (hK95 _ _ ?_)
      refine W.seq fun K103 hK103 => ?_
      refine W.sr fun K104 hK104 => ?_
      refine zE 2 (hK104 _ _ ?_)
      refine W.cond (!decide (r96.2.1 = 0)) (by kernel_rfl) (fun h105 => ?_) (fun h105 => ?_)
      rotate_left
      ·
       have h105p : r96.2.1 = 0 := of_decide_eq_true (bnot_false h105)
       replace hm := ite_yes hm h105p
       refine W.skip ?_
       refine hK103 _ _ ?_
       refine W.seq fun K106 hK106 => ?_
       have hs107 := hs102.drew
       have hs108 := St.f7 hs107
       have hs109 := St.f7 hs108
       have hs110 := St.f7 hs109
       have hs111 := St.f7 hs110
       have hs112 := St.f7 hs111
       have hs113 := St.f7 hs112
       have hs114 := St.f6 hs113
       have hs115 := St.tk7 hs114
       refine W.regionD [(0, 0), (0, 0), (0, 0), (6, 6), (0, 0), (16, 16), (32, 32), (0, 0), (128, 128), (256, 256), (512, 512), (1088, 1088), (0, 0), (4096, 4096), (8200, 8192), (18432, 18432), (32777, 32777), (131071, 65536)] (fun w_ => St B w l0 w_ [zb b34 127 [(zp vb), (zi gw), (zi gi), (zi gb), (zi n_)], zb b70 177 [(zp vb), (zi gw), (zi gi), (zi gb), (zp b71), (zp b72)], zb b71 175 [(zp vb), (zi (placeOf 6 gw gi gb 0)), (zi gi)], zb b72 175 [(zp vb), (zi (placeOf 7 gw gi gb 0)), (zi gb)], zb b4 42 [(zi gw), (zi gi), (zi gb)], zb b7 61 [(.string xn_), (zi xi_)], zb b18 61 [(.string r11.1), (zi r11.2.1)]]) (by kernel_rfl) hs115 ?_
       refine zA (zp vb) 0 hs115 ?_
       refine any_R 1 (by kernel_rfl) (fun _ hS_ => runs_loadAgg (ad := ⟨b4, 0, none⟩) (cs := [(zi gw), (zi gi), (zi gb)]) (by kernel_rfl) (cells_sub (hS_.heapAt 4 rfl) rfl)) hs115 ?_
       refine zA (zi r96.1) 2 hs115 ?_
       refine zA (.pointer (some ⟨b7, 1, none⟩)) 4 hs115 ?_
       refine zB 5 ⟨b7, 1, none⟩ (zi xi_) (fun _ hS_ => (hS_.cellAt 5 rfl rfl)) hs115 ?_
       obtain ⟨h116, hm⟩ := need_some hm
       refine any_val (v := .int .u64 (IntKind.u64.wrap xi_)) (v' := .int .u64 xi_) 6 (by kernel_rfl) (fun _ => by kernel_rfl) (congrArg (Value.int .u64) (wrap_u64 h116.1 (Int.lt_of_le_of_lt h116.2 (by decide)))) hs115 ?_
       refine zA (zp b7) 7 hs115 ?_
       refine zB 8 ⟨b7, 0, none⟩ (.string xn_) (fun _ hS_ => (hS_.cellAt 5 rfl rfl)) hs115 ?_
       refine zA (zi (xn_.size : Int)) 9 hs115 ?_
       obtain ⟨h117, hm⟩ := need_some hm
       refine any_val (v := .int .u64 (IntKind.u64.wrap (xn_.size : Int))) (v' := .int .u64 (xn_.size : Int)) 10 (by kernel_rfl) (fun _ => by kernel_rfl) (congrArg (Value.int .u64) (wrap_u64 h117.1 (Int.lt_of_le_of_lt h117.2 (by decide)))) hs115 ?_
       refine zA (zp b7) 12 hs115 ?_
       refine zB 13 ⟨b7, 0, none⟩ (.string xn_) (fun _ hS_ => (hS_.cellAt 5 rfl rfl)) hs115 ?_
       refine any_step2 3 11 (by kernel_rfl) (by kernel_rfl) (by kernel_rfl) ?_ ?_
       ·
        refine zC00 hs107 (rblockat_spec (gw := gw) (gi := gi) (gb := gb) (n_ := r96.1) B _) fun w118 hs120 => ?_
        have hs121 := St.f7 hs120
        have hs122 := St.f7 hs121
        have hs123 := St.f7 hs122
        have hs124 := St.f7 hs123
        have hs125 := St.f7 hs124
        have hs126 := St.f7 hs125
        have hs127 := St.f6 hs126
        have hs128 := St.tk7 hs127
        refine ops_done (by kernel_rfl) ⟨hs128, ?_⟩
        refine any_step2 11 14 (by kernel_rfl) (by kernel_rfl) (by kernel_rfl) ?_ ?_
        ·
         refine ops_new (fun b => .slice (some ⟨b, 0, none⟩) 2 2) (.cells [(zu xi_), (zu (xn_.size : Int))].toArray 25 (0, 0)) hs120 (by kernel_rfl) (fun b131 w129 hs130 => ?_)
         have hs132 := St.f8 hs130
         have hs133 := St.f8 hs132
         have hs134 := St.f8 hs133
         have hs135 := St.f8 hs134
         have hs136 := St.f8 hs135
         have hs137 := St.f8 hs136
         have hs138 := St.f7 hs137
         have hs139 := St.tk7 hs138
         refine ops_done (by kernel_rfl) ⟨hs139, ?_⟩
         refine any_step 14 (by kernel_rfl) (by kernel_rfl) ?_
         obtain ⟨r142, h143, hm⟩ := bind_some hm
         refine ops_call0 hs130 (by kernel_rfl) (rpack_walk (hm := h143) B _) ?_
         rintro _ _ w144 ⟨a140, c141, rfl, rfl⟩ hs145
         have hs146 := St.ap1 hs145
         have hs147 := St.f9 hs146
         have hs148 := St.f9 hs147
         have hs149 := St.f9 hs148
         have hs150 := St.f9 hs149
         have hs151 := St.f9 hs150
         have hs152 := St.f9 hs151
         have hs153 := St.f8 hs152
         have hs154 := St.tk7 hs153
         refine ops_done (by kernel_rfl) ⟨hs154, ?_⟩
         refine any_step 15 (by kernel_rfl) (by kernel_rfl) ?_
         have hs155 := St.f1 hs146
         have hs156 : St B w l0 w144 [kU64.row (some ⟨b131, 0, none⟩) 2 ([xi_, (xn_.size : Int)]), kU64.row a140 c141 r142, zb b34 127 [(zp vb), (zi gw), (zi gi), (zi gb), (zi n_)], refA (ptr vb) img r96.2.2, zb b70 177 [(zp vb), (zi gw), (zi gi), (zi gb), (zp b71), (zp b72)], zb b71 175 [(zp vb), (zi (placeOf 6 gw gi gb 0)), (zi gi)], zb b72 175 [(zp vb), (zi (placeOf 7 gw gi gb 0)), (zi gb)], zb b4 42 [(zi gw), (zi gi), (zi gb)], zb b7 61 [(.string xn_), (zi xi_)], zb b18 61 [(.string r11.1), (zi r11.2.1)]] := St.kblk kU64 [xi_, (xn_.size : Int)] hs155 rfl rfl (by simp only [List.length_cons, List.length_nil]; decide)
         obtain ⟨h161, hm⟩ := need_some hm
         refine ops_appendK kU64 (bytes := 8) (a' := a140) (c' := c141) (l := [xi_, (xn_.size : Int)]) (m := r142) hs156 (by kernel_rfl) (St.capnil kU64 hs156 1 rfl) (St.kcells kU64 hs156 1 rfl) (by unfold maxLen; (try simp only [List.length_cons, List.length_nil]); omega) (by (try simp only [List.length_cons, List.length_nil]); omega) (fun a157 c158 w159 hs160 => ?_)
         have hs162 := St.f9 hs160
         have hs163 := St.f9 hs162
         have hs164 := St.f9 hs163
         have hs165 := St.f9 hs164
         have hs166 := St.f9 hs165
         have hs167 := St.f9 hs166
         have hs168 := St.f8 hs167
         have hs169 := St.tk7 hs168
         refine ops_done (by kernel_rfl) ⟨hs169, ?_⟩
         refine any_step 16 (by kernel_rfl) (by kernel_rfl) ?_
         obtain ⟨h170, hm⟩ := need_some hm
         obtain ⟨h171, hm⟩ := need_some hm
         obtain ⟨r172, h173, hm⟩ := bind_some hm
         replace h173 := some_inj h173
         have hs176 := St.f3 hs160
         refine ops_call2 hs176 (by kernel_rfl) (rall_spec (b := vb) (img := img) (l := r96.2.2) (at_ := (placeOf 9 gw gi gb r96.1)) (la := a157) (lc := c158) (ws := ([xi_, (xn_.size : Int)] ++ r142)) (n := ([xi_, (xn_.size : Int)] ++ r142).length) (hn := rfl) (hsz := h170) (hat := h171) B _) ?_
         rintro _ _ w177 ⟨hv174, hH175⟩ hs178
         rw [h173] at hv174
         try rw [h173] at hH175
         subst hv174 hH175
         have hs179 := St.ap1 hs178
         have hs180 := St.f8 hs179
         have hs181 := St.f8 hs180
         have hs182 := St.f8 hs181
         have hs183 := St.f8 hs182
         have hs184 := St.f8 hs183
         have hs185 := St.f8 hs184
         have hs186 := St.f8 hs185
         have hs187 := St.tk7 hs186
         refine ops_done (by kernel_rfl) ⟨hs187, ?_⟩
         refine zA (zi r172.1) 17 hs187 ?_
         refine any_done (by kernel_rfl) ?_
         refine hK106 _ _ ?_
         refine W.ret (ret_block (ret_seq (ret_seq (ret_block (ret_seq ?_)))))
         obtain rfl := some_inj hm
         have hs188 := St.tk1 hs179
         refine ret_of (zi r172.1) (by kernel_rfl) ⟨_, ⟨rfl, rfl⟩, hs188⟩
        obtain ⟨r191, h192, hm⟩ := bind_some hm
        refine ops_call0 hs120 (by kernel_rfl) (rpack_walk (hm := h192) B _) ?_
        rintro _ _ w193 ⟨a189, c190, rfl, rfl⟩ hs194
        have hs195 := St.ap1 hs194
        have hs196 := St.f8 hs195
        have hs197 := St.f8 hs196
        have hs198 := St.f8 hs197
        have hs199 := St.f8 hs198
        have hs200 := St.f8 hs199
        have hs201 := St.f8 hs200
        have hs202 := St.f7 hs201
        have hs203 := St.tk7 hs202
        refine ops_done (by kernel_rfl) ⟨hs203, ?_⟩
        refine any_step 11 (by kernel_rfl) (by kernel_rfl) ?_
        refine ops_new (fun b => .slice (some ⟨b, 0, none⟩) 2 2) (.cells [(zu xi_), (zu (xn_.size : Int))].toArray 25 (0, 0)) hs195 (by kernel_rfl) (fun b206 w204 hs205 => ?_)
        have hs207 := St.f9 hs205
        have hs208 := St.f9 hs207
        have hs209 := St.f9 hs208
        have hs210 := St.f9 hs209
        have hs211 := St.f9 hs210
        have hs212 := St.f9 hs211
        have hs213 := St.f8 hs212
        have hs214 := St.tk7 hs213
        refine ops_done (by kernel_rfl) ⟨hs214, ?_⟩
        refine any_step 15 (by kernel_rfl) (by kernel_rfl) ?_
        have hs215 : St B w l0 w204 [kU64.row (some ⟨b206, 0, none⟩) 2 ([xi_, (xn_.size : Int)]), kU64.row a189 c190 r191, zb b34 127 [(zp vb), (zi gw), (zi gi), (zi gb), (zi n_)], refA (ptr vb) img r96.2.2, zb b70 177 [(zp vb), (zi gw), (zi gi), (zi gb), (zp b71), (zp b72)], zb b71 175 [(zp vb), (zi (placeOf 6 gw gi gb 0)), (zi gi)], zb b72 175 [(zp vb), (zi (placeOf 7 gw gi gb 0)), (zi gb)], zb b4 42 [(zi gw), (zi gi), (zi gb)], zb b7 61 [(.string xn_), (zi xi_)], zb b18 61 [(.string r11.1), (zi r11.2.1)]] := St.kblk kU64 [xi_, (xn_.size : Int)] hs205 rfl rfl (by simp only [List.length_cons, List.length_nil]; decide)
        obtain ⟨h220, hm⟩ := need_some hm
        refine ops_appendK kU64 (bytes := 8) (a' := a189) (c' := c190) (l := [xi_, (xn_.size : Int)]) (m := r191) hs215 (by kernel_rfl) (St.capnil kU64 hs215 1 rfl) (St.kcells kU64 hs215 1 rfl) (by unfold maxLen; (try simp only [List.length_cons, List.length_nil]); omega) (by (try simp only [List.length_cons, List.length_nil]); omega) (fun a216 c217 w218 hs219 => ?_)
        have hs221 := St.f9 hs219
        have hs222 := St.f9 hs221
        have hs223 := St.f9 hs222
        have hs224 := St.f9 hs223
        have hs225 := St.f9 hs224
        have hs226 := St.f9 hs225
        have hs227 := St.f8 hs226
        have hs228 := St.tk7 hs227
        refine ops_done (by kernel_rfl) ⟨hs228, ?_⟩
        refine any_step 16 (by kernel_rfl) (by kernel_rfl) ?_
        obtain ⟨h229, hm⟩ := need_some hm
        obtain ⟨h230, hm⟩ := need_some hm
        obtain ⟨r231, h232, hm⟩ := bind_some hm
        replace h232 := some_inj h232
        have hs235 := St.f3 hs219
        refine ops_call2 hs235 (by kernel_rfl) (rall_spec (b := vb) (img := img) (l := r96.2.2) (at_ := (placeOf 9 gw gi gb r96.1)) (la := a216) (lc := c217) (ws := ([xi_, (xn_.size : Int)] ++ r191)) (n := ([xi_, (xn_.size : Int)] ++ r191).length) (hn := rfl) (hsz := h229) (hat := h230) B _) ?_
        rintro _ _ w236 ⟨hv233, hH234⟩ hs237
        rw [h232] at hv233
        try rw [h232] at hH234
        subst hv233 hH234
        have hs238 := St.ap1 hs237
        have hs239 := St.f8 hs238
        have hs240 := St.f8 hs239
        have hs241 := St.f8 hs240
        have hs242 := St.f8 hs241
        have hs243 := St.f8 hs242
        have hs244 := St.f8 hs243
        have hs245 := St.f8 hs244
        have hs246 := St.tk7 hs245
        refine ops_done (by kernel_rfl) ⟨hs246, ?_⟩
        refine zA (zi r231.1) 17 hs246 ?_
        refine any_done (by kernel_rfl) ?_
        refine hK106 _ _ ?_
        refine W.ret (ret_block (ret_seq (ret_seq (ret_block (ret_seq ?_)))))
        obtain rfl := some_inj hm
        have hs247 := St.tk1 hs238
        refine ret_of (zi r231.1) (by kernel_rfl) ⟨_, ⟨rfl, rfl⟩, hs247⟩
       refine ops_new (fun b => .slice (some ⟨b, 0, none⟩) 2 2) (.cells [(zu xi_), (zu (xn_.size : Int))].toArray 25 (0, 0)) hs107 (by kernel_rfl) (fun b250 w248 hs249 => ?_)
       have hs251 := St.f8 hs249
       have hs252 := St.f8 hs251
       have hs253 := St.f8 hs252
       have hs254 := St.f8 hs253
       have hs255 := St.f8 hs254
       have hs256 := St.f8 hs255
       have hs257 := St.f7 hs256
       have hs258 := St.tk7 hs257
       refine ops_done (by kernel_rfl) ⟨hs258, ?_⟩
       refine any_step 3 (by kernel_rfl) (by kernel_rfl) ?_
       refine zC00 hs249 (rblockat_spec (gw := gw) (gi := gi) (gb := gb) (n_ := r96.1) B _) fun w259 hs261 => ?_
       have hs262 := St.f8 hs261
       have hs263 := St.f8 hs262
       have hs264 := St.f8 hs263
       have hs265 := St.f8 hs264
       have hs266 := St.f8 hs265
       have hs267 := St.f8 hs266
       have hs268 := St.f7 hs267
       have hs269 := St.tk7 hs268
       refine ops_done (by kernel_rfl) ⟨hs269, ?_⟩
       refine any_step 14 (by kernel_rfl) (by kernel_rfl) ?_
       obtain ⟨r272, h273, hm⟩ := bind_some hm
       refine ops_call0 hs261 (by kernel_rfl) (rpack_walk (hm := h273) B _) ?_
       rintro _ _ w274 ⟨a270, c271, rfl, rfl⟩ hs275
       have hs276 := St.ap1 hs275
       have hs277 := St.f9 hs276
       have hs278 := St.f9 hs277
       have hs279 := St.f9 hs278
       have hs280 := St.f9 hs279
       have hs281 := St.f9 hs280
       have hs282 := St.f9 hs281
       have hs283 := St.f8 hs282
       have hs284 := St.tk7 hs283
       refine ops_done (by kernel_rfl) ⟨hs284, ?_⟩
       refine any_step 15 (by kernel_rfl) (by kernel_rfl) ?_
       have hs285 := St.f1 hs276
       have hs286 : St B w l0 w274 [kU64.row (some ⟨b250, 0, none⟩) 2 ([xi_, (xn_.size : Int)]), kU64.row a270 c271 r272, zb b34 127 [(zp vb), (zi gw), (zi gi), (zi gb), (zi n_)], refA (ptr vb) img r96.2.2, zb b70 177 [(zp vb), (zi gw), (zi gi), (zi gb), (zp b71), (zp b72)], zb b71 175 [(zp vb), (zi (placeOf 6 gw gi gb 0)), (zi gi)], zb b72 175 [(zp vb), (zi (placeOf 7 gw gi gb 0)), (zi gb)], zb b4 42 [(zi gw), (zi gi), (zi gb)], zb b7 61 [(.string xn_), (zi xi_)], zb b18 61 [(.string r11.1), (zi r11.2.1)]] := St.kblk kU64 [xi_, (xn_.size : Int)] hs285 rfl rfl (by simp only [List.length_cons, List.length_nil]; decide)
       obtain ⟨h291, hm⟩ := need_some hm
       refine ops_appendK kU64 (bytes := 8) (a' := a270) (c' := c271) (l := [xi_, (xn_.size : Int)]) (m := r272) hs286 (by kernel_rfl) (St.capnil kU64 hs286 1 rfl) (St.kcells kU64 hs286 1 rfl) (by unfold maxLen; (try simp only [List.length_cons, List.length_nil]); omega) (by (try simp only [List.length_cons, List.length_nil]); omega) (fun a287 c288 w289 hs290 => ?_)
       have hs292 := St.f9 hs290
       have hs293 := St.f9 hs292
       have hs294 := St.f9 hs293
       have hs295 := St.f9 hs294
       have hs296 := St.f9 hs295
       have hs297 := St.f9 hs296
       have hs298 := St.f8 hs297
       have hs299 := St.tk7 hs298
       refine ops_done (by kernel_rfl) ⟨hs299, ?_⟩
       refine any_step 16 (by kernel_rfl) (by kernel_rfl) ?_
       obtain ⟨h300, hm⟩ := need_some hm
       obtain ⟨h301, hm⟩ := need_some hm
       obtain ⟨r302, h303, hm⟩ := bind_some hm
       replace h303 := some_inj h303
       have hs306 := St.f3 hs290
       refine ops_call2 hs306 (by kernel_rfl) (rall_spec (b := vb) (img := img) (l := r96.2.2) (at_ := (placeOf 9 gw gi gb r96.1)) (la := a287) (lc := c288) (ws := ([xi_, (xn_.size : Int)] ++ r272)) (n := ([xi_, (xn_.size : Int)] ++ r272).length) (hn := rfl) (hsz := h300) (hat := h301) B _) ?_
       rintro _ _ w307 ⟨hv304, hH305⟩ hs308
       rw [h303] at hv304
       try rw [h303] at hH305
       subst hv304 hH305
       have hs309 := St.ap1 hs308
       have hs310 := St.f8 hs309
       have hs311 := St.f8 hs310
       have hs312 := St.f8 hs311
       have hs313 := St.f8 hs312
       have hs314 := St.f8 hs313
       have hs315 := St.f8 hs314
       have hs316 := St.f8 hs315
       have hs317 := St.tk7 hs316
       refine ops_done (by kernel_rfl) ⟨hs317, ?_⟩
       refine zA (zi r302.1) 17 hs317 ?_
       refine any_done (by kernel_rfl) ?_
       refine hK106 _ _ ?_
       refine W.ret (ret_block (ret_seq (ret_seq (ret_block (ret_seq ?_)))))
       obtain rfl := some_inj hm
       have hs318 := St.tk1 hs309
       refine ret_of (zi r302.1) (by kernel_rfl) ⟨_, ⟨rfl, rfl⟩, hs318⟩
      have h105p : ¬ (r96.2.1 = 0) := of_decide_eq_false (bnot_true h105)
      replace hm := ite_no hm h105p
      refine W.sr fun K319 hK319 => ?_
      refine zE 2 (hK319 _ _ ?_)
      refine W.ret (ret_seq (ret_block (ret_seq (ret_seq (ret_block (ret_seq ?_))))))
      obtain rfl := some_inj hm
      have hs320 := St.f1 hs102
      have hs321 := St.tk1 hs320
      refine ret_of (zi r96.2.1) (by kernel_rfl) ⟨_, ⟨rfl, rfl⟩, hs321⟩
     obtain ⟨h69p, hm⟩ := iN hm h69
     refine zC00 hs63 (rnew_err (gw := gw) (gi := gi) (gb := gb) (hv := (hs63.entAt 0 rfl refA_at)) (hz := h68) (hN := h69p) B _) fun w322 hs324 => ?_
     refine zR 5 ?_
     obtain ⟨r325, h326, hm⟩ := bind_some hm
     replace h326 := some_inj h326
     refine ops_set 18 (v := .int .i64 r325) (Eq.trans (by kernel_rfl) (congrArg (Value.int .i64) h326)) ?_
     refine zD (hK67 _ _ ?_)
     refine W.seq fun K327 hK327 => ?_
     refine W.sr fun K328 hK328 => ?_
     refine zE 2 (hK328 _ _ ?_)
     refine W.cond (!decide (r325 = 0)) (by kernel_rfl) (fun h329 => ?_) (fun h329 => ?_)
     rotate_left
     ·
      have h329p : r325 = 0 := of_decide_eq_true (bnot_false h329)
      exact absurd h329p (fun e_ => (show ¬ ((if May gw gi gb then (8 : Int) else 1) = 0) by split <;> decide) (h326.trans e_))
     have h329p : ¬ (r325 = 0) := of_decide_eq_false (bnot_true h329)
     replace hm := ite_no hm h329p
     refine W.sr fun K330 hK330 => ?_
     refine zE 2 (hK330 _ _ ?_)
     refine W.ret (ret_seq (ret_block (ret_seq (ret_seq (ret_block (ret_seq ?_))))))
     obtain rfl := some_inj hm
     have hs331 := St.tk1 hs324
     refine ret_of (zi r325) (by kernel_rfl) ⟨_, ⟨rfl, rfl⟩, hs331⟩
    have h66p : ¬ (r59.1 = 0) := of_decide_eq_false (bnot_true h66)
    replace hm := ite_no hm h66p
    refine W.exit (exit_seq (exit_here ?_))
    refine hK50 _ _ ?_
    refine W.region ?_
    refine zR 1 ?_
    obtain ⟨h332, hm⟩ := need_some hm
    refine zI _ (wrap_i64 h332.1 h332.2) ?_
    refine zE 1 ?_
    refine loopAt_next ?_
    exact ih39 (p37 + 1) _ _ ⟨slots_intro _ (by kernel_rfl), hs63⟩ hm
   obtain ⟨h49p, hm⟩ := iN hm h49
   refine W.exit (exit_seq (exit_seq (exit_here ?_)))
   refine hK35 _ _ ?_
   refine W.sr fun K333 hK333 => ?_
   refine zE 1 (hK333 _ _ ?_)
   refine W.ret ?_
   obtain rfl := some_inj hm
   have hs334 := St.tk1 hs41
   refine ret_of (zi 16) (by kernel_rfl) ⟨_, ⟨rfl, rfl⟩, hs334⟩
  have h30p : ¬ (r11.2.2.2 = 6) := of_decide_eq_false (bnot_true h30)
  replace hm := ite_no hm h30p
  refine W.sr fun K335 hK335 => ?_
  refine zE 2 (hK335 _ _ ?_)
  refine W.ret (ret_seq ?_)
  obtain rfl := some_inj hm
  have hs336 := St.f1 hs21
  have hs337 := St.tk1 hs336
  refine ret_of (zi r11.2.2.2) (by kernel_rfl) ⟨_, ⟨rfl, rfl⟩, hs337⟩
 refine W.sr fun K338 hK338 => ?_
 refine zG ⟨b4, 0, none⟩ [(zi gw), (zi gi), (zi gb)] (cells_sub (hs6.heapAt 1 rfl) rfl) ?_
 refine zC00 hs6 (rmay_spec (gw := gw) (gi := gi) (gb := gb) B _) fun w339 hs341 => ?_
 refine zR 1 ?_
 rcases Bool.eq_false_or_eq_true (decide (May gw gi gb)) with h342 | h342
 ·
  obtain ⟨h342p, hm⟩ := iY hm h342
  refine zS 23 h342 ?_
  refine zS 22 h342 ?_
  refine zR 1 ?_
  refine zL ⟨b7, 1, none⟩ (zi xi_) (hs341.cellAt 0 rfl rfl) ?_
  refine zR 2 ?_
  rcases Bool.eq_false_or_eq_true (decide (xi_ < 1)) with h343 | h343
  ·
   obtain ⟨h343p, hm⟩ := iY hm h343
   refine zS 27 h343 ?_
   refine zS 26 h343 ?_
   refine zE 7 (hK338 _ _ ?_)
   refine W.cond_true true (by kernel_rfl) rfl ?_
   refine W.sr fun K344 hK344 => ?_
   refine zE 1 (hK344 _ _ ?_)
   refine W.ret (ret_seq ?_)
   obtain rfl := some_inj hm
   have hs345 := St.f2 hs341
   have hs346 := St.tk1 hs345
   refine ret_of (zi 1) (by kernel_rfl) ⟨_, ⟨rfl, rfl⟩, hs346⟩
  obtain ⟨h343p, hm⟩ := iN hm h343
  refine zS 27 h343 ?_
  refine zS 26 h343 ?_
  refine zR 1 ?_
  refine zL ⟨b7, 1, none⟩ (zi xi_) (hs341.cellAt 0 rfl rfl) ?_
  refine zR 1 ?_
  refine zL ⟨b4, 1, none⟩ (zi gi) (hs341.cellAt 1 rfl rfl) ?_
  refine zE 3 (hK338 _ _ ?_)
  refine W.cond (decide (xi_ ≥ gi)) (by kernel_rfl) (fun h347 => ?_) (fun h347 => ?_)
  ·
   obtain ⟨h347p, hm⟩ := iY hm h347
   refine W.sr fun K348 hK348 => ?_
   refine zE 1 (hK348 _ _ ?_)
   refine W.ret (ret_seq ?_)
   obtain rfl := some_inj hm
   have hs349 := St.f2 hs341
   have hs350 := St.tk1 hs349
   refine ret_of (zi 1) (by kernel_rfl) ⟨_, ⟨rfl, rfl⟩, hs350⟩
  obtain ⟨h347p, hm⟩ := iN hm h347
  refine W.skip ?_
  have hs351 := St.f1 hs341
  have hs352 := St.f2 hs351
  exact ⟨slots_intro _ (by kernel_rfl), hs352, hm⟩
 obtain ⟨h342p, hm⟩ := iN hm h342
 refine zS 23 h342 ?_
 refine zS 22 h342 ?_
 refine zE 11 (hK338 _ _ ?_)
 refine W.cond_false false (by kernel_rfl) rfl ?_
 refine W.skip ?_
 have hs353 := St.f1 hs341
 have hs354 := St.f2 hs353
 exact ⟨slots_intro _ (by kernel_rfl), hs354, hm⟩
end Go.Proofs.YtmmclabkkigiaaaGreatDoor

set_option maxRecDepth 20000
set_option maxHeartbeats 8000000
namespace Go.Proofs.YtmmclabkkigiaaaGreatDoor
open Go Go.RowKit
def rChange15_J1 (img : List Int) (l : List (Int × Int)) (gw : Int) (gi : Int) (gb : Int) (n_ : Int) (xn_ : ByteArray) (xi_ : Int) : Option (Int × List (Int × Int)) :=
 (rFind15_M img l gw gi gb n_ xn_).bind fun r11 =>
if r11.2.2.2 = 0 then ((rat13_M img l gw gi gb n_ r11.2.2.1).bind fun r30 =>
if r30.2 = 0 then (need (0 ≤ xi_ ∧ xi_ ≤ 18446744073709551615) <|
some ((vwrite img l (placeOf 9 gw gi gb r30.1) xi_).1, (vwrite img l (placeOf 9 gw gi gb r30.1) xi_).2)) else (some (r30.2, l))) else (some (r11.2.2.2, l))
def rChange15_M (img : List Int) (l : List (Int × Int)) (gw : Int) (gi : Int) (gb : Int) (n_ : Int) (xn_ : ByteArray) (xi_ : Int) : Option (Int × List (Int × Int)) :=
 if May gw gi gb then (if xi_ < 1 then (some (1, l)) else (if xi_ ≥ gi then (some (1, l)) else (rChange15_J1 img l gw gi gb n_ xn_ xi_))) else (rChange15_J1 img l gw gi gb n_ xn_ xi_)
theorem rChange15_walk {img : List Int} {l : List (Int × Int)} {gw : Int} {gi : Int} {gb : Int} {n_ : Int} {xn_ : ByteArray} {xi_ : Int} {vb : Nat} {r : Int × List (Int × Int)} (B : Nat) (w : World) (hm : rChange15_M img l gw gi gb n_ xn_ xi_ = some r) : Spec Tryz.prog 30 #[(zp vb), (.agg #[(zi gw), (zi gi), (zi gb)]), (zi n_), (.agg #[(.string xn_), (zi xi_)])] B w [refA (ptr vb) img l] (fun v H' => v = .int .i64 r.1 ∧ H' = [refA (ptr vb) img r.2]) := by
 refine spec_W Tryz.func30 rfl fun l0 hs => ?_
 unfold rChange15_M at hm
 refine W.sr fun K1 hK1 => ?_
 refine zN [(zi gw), (zi gi), (zi gb)] 42 hs fun b4 w2 hs3 => ?_
 refine zN [(.string xn_), (zi xi_)] 61 hs3 fun b7 w5 hs6 => ?_
 refine zE 1 (hK1 _ _ ?_)
 refine W.seq_join (fun s_ w_ => (∃ us, s_ = slots 63 [(0, (zp vb)), (2, (zi n_)), (5, (zp b4)), (7, (zp b7))] us) ∧ St B w l0 w_ [refA (ptr vb) img l, zb b4 42 [(zi gw), (zi gi), (zi gb)], zb b7 61 [(.string xn_), (zi xi_)]] ∧ rChange15_J1 img l gw gi gb n_ xn_ xi_ = some r) ?_ ?_
 ·
  rintro _ w8 ⟨⟨us, rfl⟩, hs9, hm⟩
  unfold rChange15_J1 at hm
  refine W.sr fun K10 hK10 => ?_
  refine zR 1 ?_
  refine zG ⟨b4, 0, none⟩ [(zi gw), (zi gi), (zi gb)] (cells_sub (hs9.heapAt 1 rfl) rfl) ?_
  refine zR 2 ?_
  refine zL ⟨b7, 0, none⟩ (.string xn_) (hs9.cellAt 2 rfl rfl) ?_
  obtain ⟨r11, h12, hm⟩ := bind_some hm
  refine zC11 hs9 (rFind15_walk (vb := vb) (gw := gw) (gi := gi) (gb := gb) (n_ := n_) (tx_ := xn_) (img := img) (l := l) (hm := h12) B _) fun w13 hs15 => ?_
  refine zR 4 ?_
  refine zN [(.string ByteArray.empty), (zi 0)] 61 hs15 fun b18 w16 hs17 => ?_
  refine zT 0 [(.string r11.1), (zi r11.2.1)] [(.string r11.1), (zi r11.2.1)] hs17 fun w19 hs21 => ?_
  refine zE 2 (hK10 _ _ ?_)
  refine W.seq fun K22 hK22 => ?_
  refine W.sr fun K23 hK23 => ?_
  refine zE 2 (hK23 _ _ ?_)
  refine W.cond (!decide (r11.2.2.2 = 0)) (by kernel_rfl) (fun h24 => ?_) (fun h24 => ?_)
  rotate_left
  ·
   have h24p : r11.2.2.2 = 0 := of_decide_eq_true (bnot_false h24)
   replace hm := ite_yes hm h24p
   refine W.skip ?_
   refine hK22 _ _ ?_
   refine W.sr fun K25 hK25 => ?_
   refine zR 1 ?_
   refine zG ⟨b4, 0, none⟩ [(zi gw), (zi gi), (zi gb)] (cells_sub (hs21.heapAt 2 rfl) rfl) ?_
   refine zR 2 ?_
   refine zN [(zp vb), (zi gw), (zi gi), (zi gb), (zi n_)] 127 hs21 fun b28 w26 hs27 => ?_
   refine zE 1 (hK25 _ _ ?_)
   refine W.sr fun K29 hK29 => ?_
   refine zR 2 ?_
   obtain ⟨r30, h31, hm⟩ := bind_some hm
   refine zC00 hs27 (rat13_walk (k_ := r11.2.2.1) (img := img) (l := l) (gw := gw) (gi := gi) (gb := gb) (n_ := n_) (hmb := (hs27.heapAt 0 rfl)) (hv := (hs27.entAt 2 rfl refA_at)) (hm := h31) B _) fun w32 hs34 => ?_
   refine zE 5 (hK29 _ _ ?_)
   refine W.seq fun K35 hK35 => ?_
   refine W.sr fun K36 hK36 => ?_
   refine zE 2 (hK36 _ _ ?_)
   refine W.cond (!decide (r30.2 = 0)) (by kernel_rfl) (fun h37 => ?_) (fun h37 => ?_)
   rotate_left
   ·
    have h37p : r30.2 = 0 := of_decide_eq_true (bnot_false h37)
    replace hm := ite_yes hm h37p
    refine W.skip ?_
    refine hK35 _ _ ?_
    refine W.seq fun K38 hK38 => ?_
    have hs39 := hs34.drew
    have hs40 := St.f4 hs39
    have hs41 := St.f4 hs40
    have hs42 := St.f3 hs41
    have hs43 := St.f3 hs42
    have hs44 := St.tk4 hs43
    refine W.regionD [(0, 0), (0, 0), (0, 0), (6, 6), (0, 0), (16, 16), (32, 32), (73, 73), (255, 128)] (fun w_ => St B w l0 w_ [zb b28 127 [(zp vb), (zi gw), (zi gi), (zi gb), (zi n_)], zb b18 61 [(.string r11.1), (zi r11.2.1)], zb b4 42 [(zi gw), (zi gi), (zi gb)], zb b7 61 [(.string xn_), (zi xi_)]]) (by kernel_rfl) hs44 ?_
    refine zA (zp vb) 0 hs44 ?_
    refine any_R 1 (by kernel_rfl) (fun _ hS_ => runs_loadAgg (ad := ⟨b4, 0, none⟩) (cs := [(zi gw), (zi gi), (zi gb)]) (by kernel_rfl) (cells_sub (hS_.heapAt 2 rfl) rfl)) hs44 ?_
    refine zA (zi r30.1) 2 hs44 ?_
    refine zA (.pointer (some ⟨b7, 1, none⟩)) 4 hs44 ?_
    refine zB 5 ⟨b7, 1, none⟩ (zi xi_) (fun _ hS_ => (hS_.cellAt 3 rfl rfl)) hs44 ?_
    obtain ⟨h45, hm⟩ := need_some hm
    refine any_val (v := .int .u64 (IntKind.u64.wrap xi_)) (v' := .int .u64 xi_) 6 (by kernel_rfl) (fun _ => by kernel_rfl) (congrArg (Value.int .u64) (wrap_u64 h45.1 (Int.lt_of_le_of_lt h45.2 (by decide)))) hs44 ?_
    refine any_step 3 (by kernel_rfl) (by kernel_rfl) ?_
    refine zC00 hs39 (rblockat_spec (gw := gw) (gi := gi) (gb := gb) (n_ := r30.1) B _) fun w46 hs48 => ?_
    have hs49 := St.f4 hs48
    have hs50 := St.f4 hs49
    have hs51 := St.f3 hs50
    have hs52 := St.f3 hs51
    have hs53 := St.tk4 hs52
    refine ops_done (by kernel_rfl) ⟨hs53, ?_⟩
    refine any_step 7 (by kernel_rfl) (by kernel_rfl) ?_
    have hs54 := St.f2 hs48
    refine zC11 hs54 (rset_spec (b := vb) (img := img) (l := l) (at_ := (placeOf 9 gw gi gb r30.1)) (x_ := xi_) B _) fun w55 hs57 => ?_
    have hs58 := St.f4 hs57
    have hs59 := St.f4 hs58
    have hs60 := St.f4 hs59
    have hs61 := St.f4 hs60
    have hs62 := St.tk4 hs61
    refine ops_done (by kernel_rfl) ⟨hs62, ?_⟩
    refine zA (zi ((vwrite img l (placeOf 9 gw gi gb r30.1) xi_).1)) 8 hs62 ?_
    refine any_done (by kernel_rfl) ?_
    refine hK38 _ _ ?_
    refine W.ret ?_
    obtain rfl := some_inj hm
    have hs63 := St.tk1 hs57
    refine ret_of (zi ((vwrite img l (placeOf 9 gw gi gb r30.1) xi_).1)) (by kernel_rfl) ⟨_, ⟨rfl, rfl⟩, hs63⟩
   have h37p : ¬ (r30.2 = 0) := of_decide_eq_false (bnot_true h37)
   replace hm := ite_no hm h37p
   refine W.sr fun K64 hK64 => ?_
   refine zE 2 (hK64 _ _ ?_)
   refine W.ret (ret_seq ?_)
   obtain rfl := some_inj hm
   have hs65 := St.f2 hs34
   have hs66 := St.tk1 hs65
   refine ret_of (zi r30.2) (by kernel_rfl) ⟨_, ⟨rfl, rfl⟩, hs66⟩
  have h24p : ¬ (r11.2.2.2 = 0) := of_decide_eq_false (bnot_true h24)
  replace hm := ite_no hm h24p
  refine W.sr fun K67 hK67 => ?_
  refine zE 2 (hK67 _ _ ?_)
  refine W.ret (ret_seq ?_)
  obtain rfl := some_inj hm
  have hs68 := St.f1 hs21
  have hs69 := St.tk1 hs68
  refine ret_of (zi r11.2.2.2) (by kernel_rfl) ⟨_, ⟨rfl, rfl⟩, hs69⟩
 refine W.sr fun K70 hK70 => ?_
 refine zG ⟨b4, 0, none⟩ [(zi gw), (zi gi), (zi gb)] (cells_sub (hs6.heapAt 1 rfl) rfl) ?_
 refine zC00 hs6 (rmay_spec (gw := gw) (gi := gi) (gb := gb) B _) fun w71 hs73 => ?_
 refine zR 1 ?_
 rcases Bool.eq_false_or_eq_true (decide (May gw gi gb)) with h74 | h74
 ·
  obtain ⟨h74p, hm⟩ := iY hm h74
  refine zS 16 h74 ?_
  refine zS 15 h74 ?_
  refine zR 1 ?_
  refine zL ⟨b7, 1, none⟩ (zi xi_) (hs73.cellAt 0 rfl rfl) ?_
  refine zR 2 ?_
  rcases Bool.eq_false_or_eq_true (decide (xi_ < 1)) with h75 | h75
  ·
   obtain ⟨h75p, hm⟩ := iY hm h75
   refine zS 20 h75 ?_
   refine zS 19 h75 ?_
   refine zE 7 (hK70 _ _ ?_)
   refine W.cond_true true (by kernel_rfl) rfl ?_
   refine W.sr fun K76 hK76 => ?_
   refine zE 1 (hK76 _ _ ?_)
   refine W.ret (ret_seq ?_)
   obtain rfl := some_inj hm
   have hs77 := St.f2 hs73
   have hs78 := St.tk1 hs77
   refine ret_of (zi 1) (by kernel_rfl) ⟨_, ⟨rfl, rfl⟩, hs78⟩
  obtain ⟨h75p, hm⟩ := iN hm h75
  refine zS 20 h75 ?_
  refine zS 19 h75 ?_
  refine zR 1 ?_
  refine zL ⟨b7, 1, none⟩ (zi xi_) (hs73.cellAt 0 rfl rfl) ?_
  refine zR 1 ?_
  refine zL ⟨b4, 1, none⟩ (zi gi) (hs73.cellAt 1 rfl rfl) ?_
  refine zE 3 (hK70 _ _ ?_)
  refine W.cond (decide (xi_ ≥ gi)) (by kernel_rfl) (fun h79 => ?_) (fun h79 => ?_)
  ·
   obtain ⟨h79p, hm⟩ := iY hm h79
   refine W.sr fun K80 hK80 => ?_
   refine zE 1 (hK80 _ _ ?_)
   refine W.ret (ret_seq ?_)
   obtain rfl := some_inj hm
   have hs81 := St.f2 hs73
   have hs82 := St.tk1 hs81
   refine ret_of (zi 1) (by kernel_rfl) ⟨_, ⟨rfl, rfl⟩, hs82⟩
  obtain ⟨h79p, hm⟩ := iN hm h79
  refine W.skip ?_
  have hs83 := St.f1 hs73
  have hs84 := St.f2 hs83
  exact ⟨slots_intro _ (by kernel_rfl), hs84, hm⟩
 obtain ⟨h74p, hm⟩ := iN hm h74
 refine zS 16 h74 ?_
 refine zS 15 h74 ?_
 refine zE 11 (hK70 _ _ ?_)
 refine W.cond_false false (by kernel_rfl) rfl ?_
 refine W.skip ?_
 have hs85 := St.f1 hs73
 have hs86 := St.f2 hs85
 exact ⟨slots_intro _ (by kernel_rfl), hs86, hm⟩
def rRemove15_M (img : List Int) (l : List (Int × Int)) (gw : Int) (gi : Int) (gb : Int) (n_ : Int) (tx_ : ByteArray) : Option (Int × List (Int × Int)) :=
 (rFind15_M img l gw gi gb n_ tx_).bind fun r6 =>
if r6.2.2.2 = 0 then ((rDrop13_M img l gw gi gb n_ r6.2.2.1).bind fun r26 =>
some (r26.1, r26.2)) else (some (r6.2.2.2, l))
theorem rRemove15_walk {img : List Int} {l : List (Int × Int)} {gw : Int} {gi : Int} {gb : Int} {n_ : Int} {tx_ : ByteArray} {vb : Nat} {r : Int × List (Int × Int)} (B : Nat) (w : World) (hm : rRemove15_M img l gw gi gb n_ tx_ = some r) : Spec Tryz.prog 31 #[(zp vb), (.agg #[(zi gw), (zi gi), (zi gb)]), (zi n_), (.string tx_)] B w [refA (ptr vb) img l] (fun v H' => v = .int .i64 r.1 ∧ H' = [refA (ptr vb) img r.2]) := by
 refine spec_W Tryz.func31 rfl fun l0 hs => ?_
 unfold rRemove15_M at hm
 refine W.sr fun K1 hK1 => ?_
 refine zN [(zi gw), (zi gi), (zi gb)] 42 hs fun b4 w2 hs3 => ?_
 refine zE 1 (hK1 _ _ ?_)
 refine W.sr fun K5 hK5 => ?_
 refine zR 1 ?_
 refine zG ⟨b4, 0, none⟩ [(zi gw), (zi gi), (zi gb)] (cells_sub (hs3.heapAt 0 rfl) rfl) ?_
 refine zR 2 ?_
 obtain ⟨r6, h7, hm⟩ := bind_some hm
 have hs8 := St.f1 hs3
 refine zC11 hs8 (rFind15_walk (vb := vb) (gw := gw) (gi := gi) (gb := gb) (n_ := n_) (tx_ := tx_) (img := img) (l := l) (hm := h7) B _) fun w9 hs11 => ?_
 refine zR 4 ?_
 refine zN [(.string ByteArray.empty), (zi 0)] 61 hs11 fun b14 w12 hs13 => ?_
 refine zT 0 [(.string r6.1), (zi r6.2.1)] [(.string r6.1), (zi r6.2.1)] hs13 fun w15 hs17 => ?_
 refine zE 2 (hK5 _ _ ?_)
 refine W.seq fun K18 hK18 => ?_
 refine W.sr fun K19 hK19 => ?_
 refine zE 2 (hK19 _ _ ?_)
 refine W.cond (!decide (r6.2.2.2 = 0)) (by kernel_rfl) (fun h20 => ?_) (fun h20 => ?_)
 rotate_left
 ·
  have h20p : r6.2.2.2 = 0 := of_decide_eq_true (bnot_false h20)
  replace hm := ite_yes hm h20p
  refine W.skip ?_
  refine hK18 _ _ ?_
  refine W.sr fun K21 hK21 => ?_
  refine zR 1 ?_
  refine zG ⟨b4, 0, none⟩ [(zi gw), (zi gi), (zi gb)] (cells_sub (hs17.heapAt 2 rfl) rfl) ?_
  refine zR 2 ?_
  refine zN [(zp vb), (zi gw), (zi gi), (zi gb), (zi n_)] 127 hs17 fun b24 w22 hs23 => ?_
  refine zE 1 (hK21 _ _ ?_)
  refine W.sr fun K25 hK25 => ?_
  refine zR 2 ?_
  obtain ⟨r26, h27, hm⟩ := bind_some hm
  have hs28 := St.f2 hs23
  have hs29 := St.f1 hs28
  refine zC22 hs29 (rDrop13_walk (mb := b24) (vb := vb) (k_ := r6.2.2.1) (img := img) (l := l) (gw := gw) (gi := gi) (gb := gb) (n_ := n_) (hm := h27) B _) fun w30 hs32 => ?_
  refine zE 1 (hK25 _ _ ?_)
  refine W.ret ?_
  obtain rfl := some_inj hm
  have hs33 := St.f1 hs32
  have hs34 := St.tk1 hs33
  refine ret_of (zi r26.1) (by kernel_rfl) ⟨_, ⟨rfl, rfl⟩, hs34⟩
 have h20p : ¬ (r6.2.2.2 = 0) := of_decide_eq_false (bnot_true h20)
 replace hm := ite_no hm h20p
 refine W.sr fun K35 hK35 => ?_
 refine zE 2 (hK35 _ _ ?_)
 refine W.ret (ret_seq ?_)
 obtain rfl := some_inj hm
 have hs36 := St.f1 hs17
 have hs37 := St.tk1 hs36
 refine ret_of (zi r6.2.2.2) (by kernel_rfl) ⟨_, ⟨rfl, rfl⟩, hs37⟩
end Go.Proofs.YtmmclabkkigiaaaGreatDoor

set_option maxRecDepth 20000
set_option maxHeartbeats 8000000
namespace Go.Proofs.YtmmclabkkigiaaaGreatDoor
open Go Go.RowKit
def rList15_B0 (img : List Int) (l : List (Int × Int)) (gw : Int) (gi : Int) (gb : Int) (n_ : Int) (k21 : ((List TRe) × Int) → Option (List TRe × Int)) (q19 : List TRe) (p20 : Int) : Option (List TRe × Int) :=
 if p20 < 12 then ((rAt15_M img l gw gi gb n_ p20).bind fun r35 =>
if r35.2.2.2 = 0 then (if r35.2.2.1 = true then (need (q19.length + ([(⟨r35.1, r35.2.1⟩ : TRe)]).length ≤ 1000000000) <|
need (-9223372036854775808 ≤ (p20 + 1) ∧ (p20 + 1) ≤ 9223372036854775807) <|
k21 ((q19 ++ [(⟨r35.1, r35.2.1⟩ : TRe)]), (p20 + 1))) else (need (-9223372036854775808 ≤ (p20 + 1) ∧ (p20 + 1) ≤ 9223372036854775807) <|
k21 (q19, (p20 + 1)))) else (some ([], r35.2.2.2))) else (some (q19, 0))
def rList15_M (img : List Int) (l : List (Int × Int)) (gw : Int) (gi : Int) (gb : Int) (n_ : Int) : Option (List TRe × Int) :=
 if (igetM img l gw gi gb n_).2 = 0 then (if (igetM img l gw gi gb n_).1.k = 2 then (iter (fun k_ s_ => rList15_B0 img l gw gi gb n_ k_ s_.1 s_.2) FUEL ([], 0)) else (some ([], 10))) else ((some ((igetM img l gw gi gb n_).2)).bind fun r93 =>
if r93 = 0 then (none) else (some ([], r93)))
theorem rList15_walk {img : List Int} {l : List (Int × Int)} {gw : Int} {gi : Int} {gb : Int} {n_ : Int} {vb : Nat} {r : List TRe × Int} (B : Nat) (w : World) (hm : rList15_M img l gw gi gb n_ = some r) : Spec Tryz.prog 32 #[(zp vb), (.agg #[(zi gw), (zi gi), (zi gb)]), (zi n_)] B w [refA (ptr vb) img l] (fun v H' => ∃ a' c', v = .tuple #[.slice a' r.1.length c', .int .i64 r.2] ∧ H' = [kRe.row a' c' r.1, refA (ptr vb) img l]) := by
 refine spec_W Tryz.func32 rfl fun l0 hs => ?_
 unfold rList15_M at hm
 refine W.sr fun K1 hK1 => ?_
 refine zN [(zi gw), (zi gi), (zi gb)] 42 hs fun b4 w2 hs3 => ?_
 refine zE 2 (hK1 _ _ ?_)
 refine W.sr fun K5 hK5 => ?_
 refine zR 1 ?_
 refine zG ⟨b4, 0, none⟩ [(zi gw), (zi gi), (zi gb)] (cells_sub (hs3.heapAt 0 rfl) rfl) ?_
 refine zR 1 ?_
 rcases Bool.eq_false_or_eq_true (decide ((igetM img l gw gi gb n_).2 = 0)) with h6 | h6
 ·
  obtain ⟨h6p, hm⟩ := iY hm h6
  rcases Bool.eq_false_or_eq_true (decide ((igetM img l gw gi gb n_).1.k = 2)) with h7 | h7
  ·
   obtain ⟨h7p, hm⟩ := iY hm h7
   refine ops_call0 hs3 (by kernel_rfl) (rdir_ok (gw := gw) (gi := gi) (gb := gb) (n_ := n_) (hv := (hs3.entAt 1 rfl refA_at)) (hP := h6p) (hK := h7p) B _) ?_
   rintro _ _ w9 ⟨b8, rfl, rfl⟩ hs10
   have hs11 := St.ap1 hs10
   refine zE 5 (hK5 _ _ ?_)
   refine W.seq fun K12 hK12 => ?_
   refine W.sr fun K13 hK13 => ?_
   refine zE 2 (hK13 _ _ ?_)
   refine W.cond_false false (by kernel_rfl) rfl ?_
   refine W.skip ?_
   refine hK12 _ _ ?_
   refine W.sr fun K14 hK14 => ?_
   refine zE 1 (hK14 _ _ ?_)
   refine W.seq fun K15 hK15 => ?_
   refine W.sr fun K16 hK16 => ?_
   refine zE 1 (hK16 _ _ ?_)
   refine W.block ?_
   have hs25 := St.knil kRe hs11
   have hs26 := St.f2 hs25
   have hs27 := St.f1 hs26
   have hs28 := St.f2 hs27
   have hs29 := St.f3 hs28
   refine W.loop_iter (G := (List TRe) × Int × (Option Addr) × Nat) (σ := (List TRe) × Int) (fun | (q19, p20, m17, m18) => (q19, p20)) (fun | (q19, p20, m17, m18), s_, w_ => (∃ us, s_ = slots 45 [(8, (zp b8)), (10, (.slice m17 q19.length m18)), (11, (zi p20))] us) ∧ St B w l0 w_ [refA (ptr vb) img l, zb b8 127 [(zp vb), (zi gw), (zi gi), (zi gb), (zi n_)], kRe.row m17 m18 q19, zb b4 42 [(zi gw), (zi gi), (zi gb)]]) ([], 0, none, 0) ⟨slots_intro _ (by kernel_rfl), hs29⟩ hm ?_
   rintro k21 ih22 ⟨q19, p20, m17, m18⟩ _ w23 ⟨⟨us, rfl⟩, hs24⟩ hm
   replace hm : rList15_B0 img l gw gi gb n_ k21 q19 p20 = some r := hm
   unfold rList15_B0 at hm
   refine W.seq fun K30 hK30 => ?_
   refine W.sr fun K31 hK31 => ?_
   refine zE 2 (hK31 _ _ ?_)
   refine W.cond (decide (p20 < 12)) (by kernel_rfl) (fun h32 => ?_) (fun h32 => ?_)
   ·
    obtain ⟨h32p, hm⟩ := iY hm h32
    refine W.skip ?_
    refine hK30 _ _ ?_
    refine W.seq fun K33 hK33 => ?_
    refine W.block ?_
    refine W.sr fun K34 hK34 => ?_
    refine zR 2 ?_
    obtain ⟨r35, h36, hm⟩ := bind_some hm
    refine zC00 hs24 (rAt15_walk (k_ := p20) (img := img) (l := l) (gw := gw) (gi := gi) (gb := gb) (n_ := n_) (hmb := (hs24.heapAt 1 rfl)) (hv := (hs24.entAt 0 rfl refA_at)) (hm := h36) B _) fun w37 hs39 => ?_
    refine zR 4 ?_
    refine zN [(.string ByteArray.empty), (zi 0)] 61 hs39 fun b42 w40 hs41 => ?_
    refine zT 0 [(.string r35.1), (zi r35.2.1)] [(.string r35.1), (zi r35.2.1)] hs41 fun w43 hs45 => ?_
    refine zE 2 (hK34 _ _ ?_)
    refine W.seq fun K46 hK46 => ?_
    refine W.sr fun K47 hK47 => ?_
    refine zE 2 (hK47 _ _ ?_)
    refine W.cond (!decide (r35.2.2.2 = 0)) (by kernel_rfl) (fun h48 => ?_) (fun h48 => ?_)
    rotate_left
    ·
     have h48p : r35.2.2.2 = 0 := of_decide_eq_true (bnot_false h48)
     replace hm := ite_yes hm h48p
     refine W.skip ?_
     refine hK46 _ _ ?_
     refine W.sr fun K49 hK49 => ?_
     refine zE 1 (hK49 _ _ ?_)
     refine W.cond r35.2.2.1 (by kernel_rfl) (fun h50 => ?_) (fun h50 => ?_)
     ·
      have h50p : r35.2.2.1 = true := h50
      replace hm := ite_yes hm h50p
      refine W.region ?_
      refine zR 1 ?_
      refine zG ⟨b42, 0, none⟩ [(.string r35.1), (zi r35.2.1)] (cells_sub (hs45.heapAt 0 rfl) rfl) ?_
      refine ops_new (fun b => .slice (some ⟨b, 0, none⟩) 1 1) (.cells [(.string r35.1), (zi r35.2.1)].toArray 61 (0, 0)) hs45 (by kernel_rfl) (fun b53 w51 hs52 => ?_)
      have hs54 := St.f4 hs52
      obtain ⟨h59, hm⟩ := need_some hm
      refine ops_appendK kRe (bytes := 24) (a' := (some ⟨b53, 0, none⟩)) (c' := 1) (l := q19) (m := [(⟨r35.1, r35.2.1⟩ : TRe)]) hs54 (by kernel_rfl) (by simp) (cells_blk (hs54.heapAt 1 rfl)) (by unfold maxLen; (try simp only [List.length_cons, List.length_nil]); omega) (by (try simp only [List.length_cons, List.length_nil]); omega) (fun a55 c56 w57 hs58 => ?_)
      refine zE 1 ?_
      refine normal_block ?_
      refine hK33 _ _ ?_
      refine W.region ?_
      refine zR 1 ?_
      obtain ⟨h60, hm⟩ := need_some hm
      refine zI _ (wrap_i64 h60.1 h60.2) ?_
      refine zE 1 ?_
      have hs61 := St.f5 hs58
      have hs62 := St.f1 hs61
      have hs63 := St.f5 hs62
      have hs64 := St.f5 hs63
      have hs65 := St.tk4 hs64
      refine loopAt_next ?_
      exact ih22 ((q19 ++ [(⟨r35.1, r35.2.1⟩ : TRe)]), (p20 + 1), a55, c56) _ _ ⟨slots_intro _ (by kernel_rfl), hs65⟩ hm
     have h50p : ¬ (r35.2.2.1 = true) := ne_true_of_eq_false h50
     replace hm := ite_no hm h50p
     refine W.skip ?_
     refine normal_block ?_
     refine hK33 _ _ ?_
     refine W.region ?_
     refine zR 1 ?_
     obtain ⟨h66, hm⟩ := need_some hm
     refine zI _ (wrap_i64 h66.1 h66.2) ?_
     refine zE 1 ?_
     have hs67 := St.f4 hs45
     have hs68 := St.f4 hs67
     have hs69 := St.f4 hs68
     have hs70 := St.f4 hs69
     have hs71 := St.tk4 hs70
     refine loopAt_next ?_
     exact ih22 (q19, (p20 + 1), m17, m18) _ _ ⟨slots_intro _ (by kernel_rfl), hs71⟩ hm
    have h48p : ¬ (r35.2.2.2 = 0) := of_decide_eq_false (bnot_true h48)
    replace hm := ite_no hm h48p
    refine W.sr fun K72 hK72 => ?_
    refine zE 3 (hK72 _ _ ?_)
    refine W.ret (ret_seq (ret_block (ret_seq (ret_seq (ret_block (ret_seq ?_))))))
    have hs73 := St.knil kRe hs45
    obtain rfl := some_inj hm
    have hs74 := St.f2 hs73
    have hs75 := St.f1 hs74
    have hs76 := St.tk2 hs75
    refine ret_of (.tuple #[(.slice none 0 0), (zi r35.2.2.2)]) (by kernel_rfl) ⟨_, ⟨none, 0, rfl, rfl⟩, hs76⟩
   obtain ⟨h32p, hm⟩ := iN hm h32
   refine W.exit (exit_seq (exit_seq (exit_here ?_)))
   refine hK15 _ _ ?_
   refine W.sr fun K77 hK77 => ?_
   refine zE 3 (hK77 _ _ ?_)
   refine W.ret ?_
   obtain rfl := some_inj hm
   have hs78 := St.f2 hs24
   have hs79 := St.tk2 hs78
   refine ret_of (.tuple #[(.slice m17 q19.length m18), (zi 0)]) (by kernel_rfl) ⟨_, ⟨m17, m18, rfl, rfl⟩, hs79⟩
  obtain ⟨h7p, hm⟩ := iN hm h7
  refine zC00 hs3 (rdir_dir (gw := gw) (gi := gi) (gb := gb) (n_ := n_) (hv := (hs3.entAt 1 rfl refA_at)) (hP := h6p) (hK := h7p) B _) fun w80 hs82 => ?_
  refine zE 5 (hK5 _ _ ?_)
  refine W.seq fun K83 hK83 => ?_
  refine W.sr fun K84 hK84 => ?_
  refine zE 2 (hK84 _ _ ?_)
  refine W.cond_true true (by kernel_rfl) rfl ?_
  refine W.sr fun K85 hK85 => ?_
  refine zE 3 (hK85 _ _ ?_)
  refine W.ret (ret_seq ?_)
  have hs86 := St.knil kRe hs82
  obtain rfl := some_inj hm
  have hs87 := St.f2 hs86
  have hs88 := St.f1 hs87
  have hs89 := St.tk2 hs88
  refine ret_of (.tuple #[(.slice none 0 0), (zi 10)]) (by kernel_rfl) ⟨_, ⟨none, 0, rfl, rfl⟩, hs89⟩
 obtain ⟨h6p, hm⟩ := iN hm h6
 refine zC00 hs3 (rdir_err (gw := gw) (gi := gi) (gb := gb) (n_ := n_) (hv := (hs3.entAt 1 rfl refA_at)) (hN := h6p) B _) fun w90 hs92 => ?_
 refine zR 5 ?_
 obtain ⟨r93, h94, hm⟩ := bind_some hm
 replace h94 := some_inj h94
 refine ops_set 9 (v := .int .i64 r93) (Eq.trans (by kernel_rfl) (congrArg (Value.int .i64) h94)) ?_
 refine zD (hK5 _ _ ?_)
 refine W.seq fun K95 hK95 => ?_
 refine W.sr fun K96 hK96 => ?_
 refine zE 2 (hK96 _ _ ?_)
 refine W.cond (!decide (r93 = 0)) (by kernel_rfl) (fun h97 => ?_) (fun h97 => ?_)
 rotate_left
 ·
  have h97p : r93 = 0 := of_decide_eq_true (bnot_false h97)
  exact absurd h97p (fun e_ => h6p (h94.trans e_))
 have h97p : ¬ (r93 = 0) := of_decide_eq_false (bnot_true h97)
 replace hm := ite_no hm h97p
 refine W.sr fun K98 hK98 => ?_
 refine zE 3 (hK98 _ _ ?_)
 refine W.ret (ret_seq ?_)
 have hs99 := St.knil kRe hs92
 obtain rfl := some_inj hm
 have hs100 := St.f2 hs99
 have hs101 := St.f1 hs100
 have hs102 := St.tk2 hs101
 refine ret_of (.tuple #[(.slice none 0 0), (zi r93)]) (by kernel_rfl) ⟨_, ⟨none, 0, rfl, rfl⟩, hs102⟩
end Go.Proofs.YtmmclabkkigiaaaGreatDoor
