/- Texts, one behind the other: A5f, F3b, F5o, A5g, A3f, A3g, A3h, Tl, A5h, A5i, A5j, K15. -/
import Derived.Test.YtmmclabkkigiaaaGreatDoorQEP4
set_option linter.unusedVariables false
set_option linter.unusedSimpArgs false
set_option maxRecDepth 20000
set_option maxHeartbeats 8000000
namespace Go.Proofs.YtmmclabkkigiaaaGreatDoor
open Go Go.RowKit
def tfind_D40  : Option (ByteArray × Int × Int × Int) :=
 some (ByteArray.empty, 0, 0, 6)
def tfind_X40 (p41 : Int) (p42 : Int) (p43 : ByteArray) (p44 : Int) : Option (ByteArray × Int × Int × Int) :=
 some (p43, p44, p42, p41)
def tfind_R40 (img : List Int) (l : List (Int × Int)) (gw : Int) (gi : Int) (gb : Int) (n_ : Int) (tx_ : ByteArray) (r27 : Int) (k38 : Nat) (c39 : Unit → Option (ByteArray × Int × Int × Int)) : Option (ByteArray × Int × Int × Int) :=
 (some (((r27 : Int) + (k38 : Int)) % 12)).bind fun r104 =>
(tentry_M img l gw gi gb n_ r104).bind fun r109 =>
if r109.2.2 = 0 then (if r109.1 = tx_ ∧ r109.2.1 = r109.2.1 then (tfind_X40 0 r104 r109.1 r109.2.1) else (c39 ())) else (tfind_X40 r109.2.2 0 ByteArray.empty 0)
def tfind_M (img : List Int) (l : List (Int × Int)) (gw : Int) (gi : Int) (gb : Int) (n_ : Int) (tx_ : ByteArray) : Option (ByteArray × Int × Int × Int) :=
 (emay_M tx_).bind fun r19 =>
if r19 = true then ((ebegin_M tx_).bind fun r27 =>
need ((0 : Int) ≤ r27 ∧ (r27 : Int) ≤ 12) <|
rounds (fun k_ c_ s_ => tfind_R40 img l gw gi gb n_ tx_ r27 k_ c_) (fun s_ => tfind_D40) 12 0 ()) else (some (ByteArray.empty, 0, 0, 13))
theorem tfind_walk {img : List Int} {l : List (Int × Int)} {gw : Int} {gi : Int} {gb : Int} {n_ : Int} {tx_ : ByteArray} {mb vb : Nat} {r : ByteArray × Int × Int × Int} (B : Nat) (w : World) (hm : tfind_M img l gw gi gb n_ tx_ = some r) : Spec Tryz.prog 46 #[(.agg #[(zp vb), (zi gw), (zi gi), (zi gb), (zp mb)]), (.string tx_)] B w [zb mb 164 [(zp vb), (zi gw), (zi gi), (zi gb), (zi n_)], viewA (ptr vb) img l] (fun v H' => v = (.tuple #[(.agg #[(.string r.1), (zi r.2.1)]), (zi r.2.2.1), (zi r.2.2.2)]) ∧ H' = [zb mb 164 [(zp vb), (zi gw), (zi gi), (zi gb), (zi n_)], viewA (ptr vb) img l]) := by
 refine spec_W Tryz.func46 rfl fun l0 hs => ?_
 unfold tfind_M at hm
 refine W.sr fun K1 hK1 => ?_
 refine zN [(zp vb), (zi gw), (zi gi), (zi gb), (zp mb)] 97 hs fun b4 w2 hs3 => ?_
 refine zN [(.string tx_)] 9 hs3 fun b7 w5 hs6 => ?_
 refine zN [(.string ByteArray.empty), (zi 0)] 33 hs6 fun b10 w8 hs9 => ?_
 refine zN [(zi 0)] 3 hs9 fun b13 w11 hs12 => ?_
 refine zN [(zi 0)] 34 hs12 fun b16 w14 hs15 => ?_
 refine zD (hK1 _ _ ?_)
 refine W.seq fun K17 hK17 => ?_
 refine W.sr fun K18 hK18 => ?_
 refine zL ⟨b7, 0, none⟩ (.string tx_) (hs15.cellAt 3 rfl rfl) ?_
 obtain ⟨r19, h20, hm⟩ := bind_some hm
 refine zC00 hs15 (emay_walk (tx_ := tx_) (hm := h20) B _) fun w21 hs23 => ?_
 refine zE 1 (hK18 _ _ ?_)
 refine W.cond (!r19) (by kernel_rfl) (fun h24 => ?_) (fun h24 => ?_)
 rotate_left
 ·
  have h24p : r19 = true := (bnot_false h24)
  replace hm := ite_yes hm h24p
  refine W.skip ?_
  refine hK17 _ _ ?_
  refine W.seq fun K25 hK25 => ?_
  refine W.sr fun K26 hK26 => ?_
  refine zL ⟨b7, 0, none⟩ (.string tx_) (hs23.cellAt 3 rfl rfl) ?_
  obtain ⟨r27, h28, hm⟩ := bind_some hm
  refine zC00 hs23 (ebegin_walk (tx_ := tx_) (hm := h28) B _) fun w29 hs31 => ?_
  refine ops_call0 hs31 (by kernel_rfl) (around_spec (f_ := r27) B _) ?_
  rintro _ _ w33 ⟨b32, rfl, rfl⟩ hs34
  have hs35 := St.ap1 hs34
  refine zD (hK26 _ _ ?_)
  refine W.block ?_
  obtain ⟨h36, hm⟩ := need_some hm
  refine W.norm (n := 37) (l := [(2, (zp b4)), (3, (zp b7)), (4, (zp b10)), (5, (zp b13)), (6, (zp b16)), (16, (.func (.func 83) #[] #[(zp b32)]))]) (by kernel_rfl) (fun us37 => ?_)
  have hs49 := St.f5 hs35
  have hs50 := St.f6 hs49
  have hs51 := St.f7 hs50
  have hs52 := St.f7 hs51
  have hs53 := St.f7 hs52
  have hs54 := St.f7 hs53
  have hs55 := St.f7 hs54
  have hs56 := St.f7 hs55
  have hF57 : rounds (fun k_ c_ s_ => tfind_R40 img l gw gi gb n_ tx_ r27 k_ c_) (fun s_ => tfind_D40) (12 - 0) 0 () = some r := by rw [Nat.sub_zero]; exact hm
  clear hm
  refine W.roundsA (G := Unit) (GZ := Int × Int × ByteArray × Int) (gf := 83) (lb := #[(zp b32)]) 12 (fun k_ _ => rounds (fun k_ c_ s_ => tfind_R40 img l gw gi gb n_ tx_ r27 k_ c_) (fun s_ => tfind_D40) (12 - k_) k_ () = some r) (fun _ => [zb b16 34 [(zi 0)], zb b13 3 [(zi 0)], zb b10 33 [(.string ByteArray.empty), (zi 0)], zb b7 9 [(.string tx_)], viewA (ptr vb) img l, zb mb 164 [(zp vb), (zi gw), (zi gi), (zi gb), (zi n_)], zb b4 97 [(zp vb), (zi gw), (zi gi), (zi gb), (zp mb)]]) .ret (fun (p41, p42, p43, p44) => tfind_X40 p41 p42 p43 p44 = some r) (fun (p41, p42, p43, p44) => [zb b16 34 [(zi p41)], zb b13 3 [(zi p42)], zb b10 33 [(.string p43), (zi p44)], zb b7 9 [(.string tx_)], viewA (ptr vb) img l, zb mb 164 [(zp vb), (zi gw), (zi gi), (zi gb), (zi n_)], zb b4 97 [(zp vb), (zi gw), (zi gi), (zi gb), (zp mb)]]) [zb b32 3 [(zi r27)]] (fun k_ => #[(zi (((r27 : Int) + (k_ : Int)) % 12))]) (fun k_ l_ => slotsD 37 ((17, (zi (((r27 : Int) + (k_ : Int)) % 12))) :: [(2, (zp b4)), (3, (zp b7)), (4, (zp b10)), (5, (zp b13)), (6, (zp b16)), (16, (.func (.func 83) #[] #[(zp b32)]))]) us37 (some l_) []) () hF57 hs56 rfl (by kernel_rfl) (fun _ _ => by kernel_rfl) (fun _ => rfl) (fun a_ k_ l_ h1_ h2_ => ⟨rel_round1 (n := 37) (by decide) h1_ h2_, rfl⟩) (fun l_ => #[.func (.yield l_) #[] #[], (zp b32)]) (fun _ => rfl) (fun l_ w_ Y_ Z_ hy_ => around1_spec (f_ := r27) (yl := l_) (Y := Y_) (Z := Z_) (hf := h36) (hy := fun k_ h_ w_ => hy_ k_ h_ w_) _ w_) ?_ ?_ ?_
  rotate_left
  ·
   rintro D48 w58 _ hF60 hs59
   replace hF60 : rounds (fun k_ c_ s_ => tfind_R40 img l gw gi gb n_ tx_ r27 k_ c_) (fun s_ => tfind_D40) (12 - 12) 12 () = some r := hF60
   rw [rounds_end] at hF60
   have hm : tfind_D40 = some r := hF60
   clear hF60
   unfold tfind_D40 at hm
   have hs61 : St B w l0 w58 [blk D48 (.deferred (some [])), zb b32 3 [(zi r27)], zb b16 34 [(zi 0)], zb b13 3 [(zi 0)], zb b10 33 [(.string ByteArray.empty), (zi 0)], zb b7 9 [(.string tx_)], viewA (ptr vb) img l, zb mb 164 [(zp vb), (zi gw), (zi gi), (zi gb), (zi n_)], zb b4 97 [(zp vb), (zi gw), (zi gi), (zi gb), (zp mb)]] := hs59
   refine normal_block ?_
   refine hK25 _ _ ?_
   refine W.sr fun K62 hK62 => ?_
   refine zR 1 ?_
   have hs65 := St.f4 hs61
   refine zT 0 [(.string ByteArray.empty), (zi 0)] [(.string ByteArray.empty), (zi 0)] hs65 fun w63 hs66 => ?_
   have hs69 := St.f4 hs66
   refine zT 0 [(zi 0)] [(zi 0)] hs69 fun w67 hs70 => ?_
   have hs73 := St.f4 hs70
   refine zT 0 [(zi 6)] [(zi 6)] hs73 fun w71 hs74 => ?_
   refine zD (hK62 _ _ ?_)
   refine W.ret ?_
   obtain rfl := some_inj hm
   have hs75 := St.f8 hs74
   have hs76 := St.f8 hs75
   have hs77 := St.f8 hs76
   have hs78 := St.f8 hs77
   have hs79 := St.f8 hs78
   have hs80 := St.f7 hs79
   have hs81 := St.f7 hs80
   have hs82 := St.f7 hs81
   have hs83 := St.f8 hs82
   refine leave_mark (D := D48) (v := (.tuple #[(.agg #[(.string ByteArray.empty), (zi 0)]), (zi 0), (zi 6)])) hs83 (by kernel_rfl) (fun w84 hs85 => (resD_three rfl (.agg (ad := ⟨b10, 0, none⟩) (cs := [(.string ByteArray.empty), (zi 0)]) (by kernel_rfl) (by kernel_rfl) (cells_sub (hs85.heapAt 2 rfl) rfl)) (.cell (ad := ⟨b13, 0, none⟩) (by kernel_rfl) (by kernel_rfl) (hs85.cellAt 1 rfl rfl)) (.cell (ad := ⟨b16, 0, none⟩) (by kernel_rfl) (by kernel_rfl) (hs85.cellAt 0 rfl rfl)))) (fun w84 hs85 => ?_)
   have hs86 := St.f5 hs85
   have hs87 := St.f6 hs86
   have hs88 := St.tk2 hs87
   exact ⟨_, ⟨rfl, rfl⟩, hs88⟩
  ·
   rintro D91 w89 ⟨p41, p42, p43, p44⟩ hm hs90
   replace hm : tfind_X40 p41 p42 p43 p44 = some r := hm
   unfold tfind_X40 at hm
   have hs92 : St B w l0 w89 [blk D91 (.deferred (some [])), zb b32 3 [(zi r27)], zb b16 34 [(zi p41)], zb b13 3 [(zi p42)], zb b10 33 [(.string p43), (zi p44)], zb b7 9 [(.string tx_)], viewA (ptr vb) img l, zb mb 164 [(zp vb), (zi gw), (zi gi), (zi gb), (zi n_)], zb b4 97 [(zp vb), (zi gw), (zi gi), (zi gb), (zp mb)]] := hs90
   refine W.ret (ret_block (ret_seq ?_))
   obtain rfl := some_inj hm
   refine leave_mark (D := D91) (v := (.tuple #[(.agg #[(.string p43), (zi p44)]), (zi p42), (zi p41)])) hs92 (by kernel_rfl) (fun w93 hs94 => (resD_three rfl (.agg (ad := ⟨b10, 0, none⟩) (cs := [(.string p43), (zi p44)]) (by kernel_rfl) (by kernel_rfl) (cells_sub (hs94.heapAt 3 rfl) rfl)) (.cell (ad := ⟨b13, 0, none⟩) (by kernel_rfl) (by kernel_rfl) (hs94.cellAt 2 rfl rfl)) (.cell (ad := ⟨b16, 0, none⟩) (by kernel_rfl) (by kernel_rfl) (hs94.cellAt 1 rfl rfl)))) (fun w93 hs94 => ?_)
   have hs95 := St.f5 hs94
   have hs96 := St.f6 hs95
   have hs97 := St.tk2 hs96
   exact ⟨_, ⟨rfl, rfl⟩, hs97⟩
  rintro k38 hk98 rc46 l45 w99 _ hF103 lf100 hs101 K102 hK102
  replace hF103 : rounds (fun k_ c_ s_ => tfind_R40 img l gw gi gb n_ tx_ r27 k_ c_) (fun s_ => tfind_D40) (12 - k38) k38 () = some r := hF103
  rw [rounds_at hk98] at hF103
  obtain ⟨c39, hc39⟩ : ∃ c_, c_ = rounds (fun k_ c_ s_ => tfind_R40 img l gw gi gb n_ tx_ r27 k_ c_) (fun s_ => tfind_D40) (12 - (k38 + 1)) (k38 + 1) := ⟨_, rfl⟩
  rw [← hc39] at hF103
  have hm : tfind_R40 img l gw gi gb n_ tx_ r27 k38 c39 = some r := hF103
  clear hF103
  unfold tfind_R40 at hm
  refine W.region ?_
  refine zR 1 ?_
  obtain ⟨r104, h105, hm⟩ := bind_some hm
  replace h105 := some_inj h105
  refine ops_set 7 (v := .int .i64 r104) (Eq.trans (by kernel_rfl) (congrArg (Value.int .i64) h105)) ?_
  refine zD ?_
  refine hK102 _ _ hs101 (fun w106 hs107 => ?_)
  refine W.block ?_
  refine W.sr fun K108 hK108 => ?_
  refine zG ⟨b4, 0, none⟩ [(zp vb), (zi gw), (zi gi), (zi gb), (zp mb)] (cells_sub (hs107.heapAt 7 rfl) rfl) ?_
  refine zR 1 ?_
  obtain ⟨r109, h110, hm⟩ := bind_some hm
  have hs111 := St.f5 hs107
  have hs112 := St.f6 hs111
  refine zC22 hs112 (tentry_walk (mb := mb) (vb := vb) (k_ := r104) (img := img) (l := l) (gw := gw) (gi := gi) (gb := gb) (n_ := n_) (hm := h110) B _) fun w113 hs115 => ?_
  refine zR 3 ?_
  refine zN [(.string ByteArray.empty), (zi 0)] 33 hs115 fun b118 w116 hs117 => ?_
  refine zT 0 [(.string r109.1), (zi r109.2.1)] [(.string r109.1), (zi r109.2.1)] hs117 fun w119 hs121 => ?_
  refine zE 1 (hK108 _ _ ?_)
  refine W.seq fun K122 hK122 => ?_
  refine W.sr fun K123 hK123 => ?_
  refine zE 2 (hK123 _ _ ?_)
  refine W.cond (!decide (r109.2.2 = 0)) (by kernel_rfl) (fun h124 => ?_) (fun h124 => ?_)
  rotate_left
  ·
   have h124p : r109.2.2 = 0 := of_decide_eq_true (bnot_false h124)
   replace hm := ite_yes hm h124p
   refine W.skip ?_
   refine hK122 _ _ ?_
   refine W.sr fun K125 hK125 => ?_
   refine zG ⟨b118, 0, none⟩ [(.string r109.1), (zi r109.2.1)] (cells_sub (hs121.heapAt 0 rfl) rfl) ?_
   refine zL ⟨b7, 0, none⟩ (.string tx_) (hs121.cellAt 7 rfl rfl) ?_
   refine zR 1 ?_
   refine zL ⟨b118, 1, none⟩ (zi r109.2.1) (hs121.cellAt 0 rfl rfl) ?_
   refine zR 1 ?_
   refine ops_R (v := (.bool ((r109.1 == tx_) && ((decide (r109.2.1 = r109.2.1)) && true)))) (runs_eq (b := ((r109.1 == tx_) && ((decide (r109.2.1 = r109.2.1)) && true))) (by kernel_rfl)) ?_
   refine zD (hK125 _ _ ?_)
   refine W.cond ((r109.1 == tx_) && ((decide (r109.2.1 = r109.2.1)) && true)) (by kernel_rfl) (fun h126 => ?_) (fun h126 => ?_)
   ·
    have h126p : r109.1 = tx_ ∧ r109.2.1 = r109.2.1 := by simpa using h126
    replace hm := ite_yes hm h126p
    refine W.sr fun K127 hK127 => ?_
    refine zG ⟨b118, 0, none⟩ [(.string r109.1), (zi r109.2.1)] (cells_sub (hs121.heapAt 0 rfl) rfl) ?_
    refine zR 1 ?_
    have hs130 := St.f6 hs121
    refine zT 0 [(.string r109.1), (zi r109.2.1)] [(.string r109.1), (zi r109.2.1)] hs130 fun w128 hs131 => ?_
    have hs134 := St.f6 hs131
    refine zT 0 [(zi r104)] [(zi r104)] hs134 fun w132 hs135 => ?_
    have hs138 := St.f6 hs135
    refine zT 0 [(zi 0)] [(zi 0)] hs138 fun w136 hs139 => ?_
    refine zD (hK127 _ _ ?_)
    refine W.ret (ret_block ?_)
    have hs140 := St.f8 hs139
    have hs141 := St.f5 hs140
    have hs142 := St.f6 hs141
    have hs143 := St.f8 hs142
    have hs144 := St.f6 hs143
    have hs145 := St.f6 hs144
    have hs146 := St.f6 hs145
    have hs147 := St.f8 hs146
    have hs148 := St.tk8 hs147
    exact ⟨rfl, (0, r104, r109.1, r109.2.1), hm, hs148⟩
   have h126p : ¬ (r109.1 = tx_ ∧ r109.2.1 = r109.2.1) := by simpa using h126
   replace hm := ite_no hm h126p
   refine W.skip ?_
   refine normal_block ?_
   have hs149 := St.f8 hs121
   have hs150 := St.f2 hs149
   have hs151 := St.f3 hs150
   have hs152 := St.f8 hs151
   have hs153 := St.f8 hs152
   have hs154 := St.f8 hs153
   have hs155 := St.f8 hs154
   have hs156 := St.f8 hs155
   have hs157 := St.tk8 hs156
   rw [hc39] at hm
   exact ⟨(), hm, hs157⟩
  have h124p : ¬ (r109.2.2 = 0) := of_decide_eq_false (bnot_true h124)
  replace hm := ite_no hm h124p
  refine W.sr fun K158 hK158 => ?_
  refine zR 2 ?_
  have hs161 := St.f6 hs121
  refine zT 0 [(.string ByteArray.empty), (zi 0)] [(.string ByteArray.empty), (zi 0)] hs161 fun w159 hs162 => ?_
  have hs165 := St.f6 hs162
  refine zT 0 [(zi 0)] [(zi 0)] hs165 fun w163 hs166 => ?_
  have hs169 := St.f6 hs166
  refine zT 0 [(zi r109.2.2)] [(zi r109.2.2)] hs169 fun w167 hs170 => ?_
  refine zD (hK158 _ _ ?_)
  refine W.ret (ret_seq (ret_block ?_))
  have hs171 := St.f8 hs170
  have hs172 := St.f5 hs171
  have hs173 := St.f6 hs172
  have hs174 := St.f8 hs173
  have hs175 := St.f6 hs174
  have hs176 := St.f6 hs175
  have hs177 := St.f6 hs176
  have hs178 := St.f8 hs177
  have hs179 := St.tk8 hs178
  exact ⟨rfl, (r109.2.2, 0, ByteArray.empty, 0), hm, hs179⟩
 have h24p : ¬ (r19 = true) := ne_true_of_eq_false (bnot_true h24)
 replace hm := ite_no hm h24p
 refine W.sr fun K180 hK180 => ?_
 refine zR 1 ?_
 have hs183 := St.f2 hs23
 refine zT 0 [(.string ByteArray.empty), (zi 0)] [(.string ByteArray.empty), (zi 0)] hs183 fun w181 hs184 => ?_
 have hs187 := St.f2 hs184
 refine zT 0 [(zi 0)] [(zi 0)] hs187 fun w185 hs188 => ?_
 have hs191 := St.f2 hs188
 refine zT 0 [(zi 13)] [(zi 13)] hs191 fun w189 hs192 => ?_
 refine zD (hK180 _ _ ?_)
 refine W.ret (ret_seq ?_)
 obtain rfl := some_inj hm
 have hs193 := St.f6 hs192
 have hs194 := St.f6 hs193
 have hs195 := St.tk2 hs194
 refine ret_of (.tuple #[(.agg #[(.string ByteArray.empty), (zi 0)]), (zi 0), (zi 13)]) (resS_of (by kernel_rfl) (resD_three rfl (.agg (ad := ⟨b10, 0, none⟩) (cs := [(.string ByteArray.empty), (zi 0)]) (by kernel_rfl) (by kernel_rfl) (cells_sub (hs192.heapAt 2 rfl) rfl)) (.cell (ad := ⟨b13, 0, none⟩) (by kernel_rfl) (by kernel_rfl) (hs192.cellAt 1 rfl rfl)) (.cell (ad := ⟨b16, 0, none⟩) (by kernel_rfl) (by kernel_rfl) (hs192.cellAt 0 rfl rfl)))) ⟨_, ⟨rfl, rfl⟩, hs195⟩
end Go.Proofs.YtmmclabkkigiaaaGreatDoor

set_option maxRecDepth 20000
set_option maxHeartbeats 1000000
namespace Go.Proofs.YtmmclabkkigiaaaGreatDoor
open Go Go.RowKit
theorem bof_ok {vb : Nat} {img : List Int} {l : List (Int × Int)} {gw gi gb n_ : Int} (B : Nat) (w : World) (hv : ViewAt (ptr vb) img l w) (hP : (igetM img l gw gi gb n_).2 = 0) : Spec Tryz.prog 82 #[(zp vb), (.agg #[(zi gw), (zi gi), (zi gb)]), (zi n_)] B w [] (fun v H' => ∃ mb, v = .tuple #[ptr mb, .int .i64 0] ∧ H' = [zb mb 164 [(zp vb), (zi gw), (zi gi), (zi gb), (zi n_)]]) := by
 refine spec_Q Tryz.func82 rfl fun hs => ?_
 refine W.sr fun K1 hK1 => ?_
 refine zN [(zi gw), (zi gi), (zi gb)] 31 hs fun b4 w2 hs3 => ?_
 refine zE 2 (hK1 _ _ ?_)
 refine W.sr fun K5 hK5 => ?_
 refine zR 1 ?_
 refine zG ⟨b4, 0, none⟩ [(zi gw), (zi gi), (zi gb)] (cells_sub (hs3.heapAt 0 rfl) rfl) ?_
 refine zR 1 ?_
 refine zC00 hs3 (ig_spec (gw := gw) (gi := gi) (gb := gb) (n_ := n_) (hv := (viewAt_old hs3 hv)) B _) fun w6 hs8 => ?_
 refine zR 3 ?_
 refine zN [(zu 0), (zu 0), (zu 0), (zu 0), (zu 0), (zu 0), (zu 0), (zu 0), (zu 0), (zu 0)] 153 hs8 fun b11 w9 hs10 => ?_
 refine zT 0 [(zu ((igetM img l gw gi gb n_).1.k)), (zu ((igetM img l gw gi gb n_).1.l)), (zu ((igetM img l gw gi gb n_).1.o)), (zu ((igetM img l gw gi gb n_).1.s)), (zu ((igetM img l gw gi gb n_).1.a)), (zu ((igetM img l gw gi gb n_).1.b)), (zu ((igetM img l gw gi gb n_).1.c)), (zu ((igetM img l gw gi gb n_).1.d)), (zu ((igetM img l gw gi gb n_).1.e)), (zu ((igetM img l gw gi gb n_).1.m))] [(zu ((igetM img l gw gi gb n_).1.k)), (zu ((igetM img l gw gi gb n_).1.l)), (zu ((igetM img l gw gi gb n_).1.o)), (zu ((igetM img l gw gi gb n_).1.s)), (zu ((igetM img l gw gi gb n_).1.a)), (zu ((igetM img l gw gi gb n_).1.b)), (zu ((igetM img l gw gi gb n_).1.c)), (zu ((igetM img l gw gi gb n_).1.d)), (zu ((igetM img l gw gi gb n_).1.e)), (zu ((igetM img l gw gi gb n_).1.m))] hs10 fun w12 hs14 => ?_
 refine zE 1 (hK5 _ _ ?_)
 refine W.seq fun K15 hK15 => ?_
 refine W.sr fun K16 hK16 => ?_
 refine zE 2 (hK16 _ _ ?_)
 refine W.cond (!decide ((igetM img l gw gi gb n_).2 = 0)) (by kernel_rfl) (fun h17 => ?_) (fun h17 => ?_)
 ·
  have h17p : ¬ ((igetM img l gw gi gb n_).2 = 0) := of_decide_eq_false (bnot_true h17)
  refine W.sr fun K18 hK18 => ?_
  refine zE 3 (hK18 _ _ ?_)
  refine W.ret (ret_seq ?_)
  exact absurd hP (by assumption)
 have h17p : (igetM img l gw gi gb n_).2 = 0 := of_decide_eq_true (bnot_false h17)
 refine W.skip ?_
 refine hK15 _ _ ?_
 refine W.sr fun K19 hK19 => ?_
 refine zR 1 ?_
 refine zG ⟨b4, 0, none⟩ [(zi gw), (zi gi), (zi gb)] (cells_sub (hs14.heapAt 1 rfl) rfl) ?_
 refine zR 2 ?_
 refine zN [(zp vb), (zi gw), (zi gi), (zi gb), (zi n_)] 164 hs14 fun b22 w20 hs21 => ?_
 refine zE 2 (hK19 _ _ ?_)
 refine W.ret ?_
 have hs23 := St.tk1 hs21
 refine ret_of (.tuple #[(zp b22), (zi 0)]) (by kernel_rfl) ⟨_, ⟨b22, rfl, rfl⟩, hs23⟩
theorem bof_err {vb : Nat} {img : List Int} {l : List (Int × Int)} {gw gi gb n_ : Int} (B : Nat) (w : World) (hv : ViewAt (ptr vb) img l w) (hN : ¬ ((igetM img l gw gi gb n_).2 = 0)) : Spec Tryz.prog 82 #[(zp vb), (.agg #[(zi gw), (zi gi), (zi gb)]), (zi n_)] B w [] (fun v H' => v = .tuple #[.pointer none, .int .i64 ((igetM img l gw gi gb n_).2)] ∧ H' = []) := by
 refine spec_Q Tryz.func82 rfl fun hs => ?_
 refine W.sr fun K1 hK1 => ?_
 refine zN [(zi gw), (zi gi), (zi gb)] 31 hs fun b4 w2 hs3 => ?_
 refine zE 2 (hK1 _ _ ?_)
 refine W.sr fun K5 hK5 => ?_
 refine zR 1 ?_
 refine zG ⟨b4, 0, none⟩ [(zi gw), (zi gi), (zi gb)] (cells_sub (hs3.heapAt 0 rfl) rfl) ?_
 refine zR 1 ?_
 refine zC00 hs3 (ig_spec (gw := gw) (gi := gi) (gb := gb) (n_ := n_) (hv := (viewAt_old hs3 hv)) B _) fun w6 hs8 => ?_
 refine zR 3 ?_
 refine zN [(zu 0), (zu 0), (zu 0), (zu 0), (zu 0), (zu 0), (zu 0), (zu 0), (zu 0), (zu 0)] 153 hs8 fun b11 w9 hs10 => ?_
 refine zT 0 [(zu ((igetM img l gw gi gb n_).1.k)), (zu ((igetM img l gw gi gb n_).1.l)), (zu ((igetM img l gw gi gb n_).1.o)), (zu ((igetM img l gw gi gb n_).1.s)), (zu ((igetM img l gw gi gb n_).1.a)), (zu ((igetM img l gw gi gb n_).1.b)), (zu ((igetM img l gw gi gb n_).1.c)), (zu ((igetM img l gw gi gb n_).1.d)), (zu ((igetM img l gw gi gb n_).1.e)), (zu ((igetM img l gw gi gb n_).1.m))] [(zu ((igetM img l gw gi gb n_).1.k)), (zu ((igetM img l gw gi gb n_).1.l)), (zu ((igetM img l gw gi gb n_).1.o)), (zu ((igetM img l gw gi gb n_).1.s)), (zu ((igetM img l gw gi gb n_).1.a)), (zu ((igetM img l gw gi gb n_).1.b)), (zu ((igetM img l gw gi gb n_).1.c)), (zu ((igetM img l gw gi gb n_).1.d)), (zu ((igetM img l gw gi gb n_).1.e)), (zu ((igetM img l gw gi gb n_).1.m))] hs10 fun w12 hs14 => ?_
 refine zE 1 (hK5 _ _ ?_)
 refine W.seq fun K15 hK15 => ?_
 refine W.sr fun K16 hK16 => ?_
 refine zE 2 (hK16 _ _ ?_)
 refine W.cond (!decide ((igetM img l gw gi gb n_).2 = 0)) (by kernel_rfl) (fun h17 => ?_) (fun h17 => ?_)
 ·
  have h17p : ¬ ((igetM img l gw gi gb n_).2 = 0) := of_decide_eq_false (bnot_true h17)
  refine W.sr fun K18 hK18 => ?_
  refine zE 3 (hK18 _ _ ?_)
  refine W.ret (ret_seq ?_)
  have hs19 := St.tk0 hs14
  refine ret_of (.tuple #[(.pointer none), (zi ((igetM img l gw gi gb n_).2))]) (by kernel_rfl) ⟨_, ⟨rfl, rfl⟩, hs19⟩
 have h17p : (igetM img l gw gi gb n_).2 = 0 := of_decide_eq_true (bnot_false h17)
 refine W.skip ?_
 refine hK15 _ _ ?_
 refine W.sr fun K20 hK20 => ?_
 refine zR 1 ?_
 refine zG ⟨b4, 0, none⟩ [(zi gw), (zi gi), (zi gb)] (cells_sub (hs14.heapAt 1 rfl) rfl) ?_
 refine zR 2 ?_
 refine zN [(zp vb), (zi gw), (zi gi), (zi gb), (zi n_)] 164 hs14 fun b23 w21 hs22 => ?_
 refine zE 2 (hK20 _ _ ?_)
 refine W.ret ?_
 exact absurd (by assumption) hN
end Go.Proofs.YtmmclabkkigiaaaGreatDoor

set_option maxRecDepth 20000
set_option maxHeartbeats 2000000
namespace Go.Proofs.YtmmclabkkigiaaaGreatDoor
open Go Go.RowKit
theorem eopen_ok {vb : Nat} {img : List Int} {l : List (Int × Int)} {gw gi gb n_ : Int} (B : Nat) (w : World) (hv : ViewAt (ptr vb) img l w) (hP : (igetM img l gw gi gb n_).2 = 0) (hK : (igetM img l gw gi gb n_).1.k = 2) : Spec Tryz.prog 45 #[(zp vb), (.agg #[(zi gw), (zi gi), (zi gb)]), (zi n_)] B w [] (fun v H' => ∃ mb, v = (.tuple #[(.agg #[(zp vb), (zi gw), (zi gi), (zi gb), (zp mb)]), (zi 0)]) ∧ H' = [zb mb 164 [(zp vb), (zi gw), (zi gi), (zi gb), (zi n_)]]) := by
 refine spec_Q Tryz.func45 rfl fun hs => ?_
 refine W.sr fun K1 hK1 => ?_
 refine zN [(zi gw), (zi gi), (zi gb)] 31 hs fun b4 w2 hs3 => ?_
 refine zN [(.pointer none), (zi 0), (zi 0), (zi 0), (.pointer none)] 97 hs3 fun b7 w5 hs6 => ?_
 refine zE 1 (hK1 _ _ ?_)
 refine W.sr fun K8 hK8 => ?_
 refine zR 1 ?_
 refine zG ⟨b4, 0, none⟩ [(zi gw), (zi gi), (zi gb)] (cells_sub (hs6.heapAt 1 rfl) rfl) ?_
 refine zR 1 ?_
 refine zC00 hs6 (ig_spec (gw := gw) (gi := gi) (gb := gb) (n_ := n_) (hv := (viewAt_old hs6 hv)) B _) fun w9 hs11 => ?_
 refine zR 3 ?_
 refine zN [(zu 0), (zu 0), (zu 0), (zu 0), (zu 0), (zu 0), (zu 0), (zu 0), (zu 0), (zu 0)] 153 hs11 fun b14 w12 hs13 => ?_
 refine zT 0 [(zu ((igetM img l gw gi gb n_).1.k)), (zu ((igetM img l gw gi gb n_).1.l)), (zu ((igetM img l gw gi gb n_).1.o)), (zu ((igetM img l gw gi gb n_).1.s)), (zu ((igetM img l gw gi gb n_).1.a)), (zu ((igetM img l gw gi gb n_).1.b)), (zu ((igetM img l gw gi gb n_).1.c)), (zu ((igetM img l gw gi gb n_).1.d)), (zu ((igetM img l gw gi gb n_).1.e)), (zu ((igetM img l gw gi gb n_).1.m))] [(zu ((igetM img l gw gi gb n_).1.k)), (zu ((igetM img l gw gi gb n_).1.l)), (zu ((igetM img l gw gi gb n_).1.o)), (zu ((igetM img l gw gi gb n_).1.s)), (zu ((igetM img l gw gi gb n_).1.a)), (zu ((igetM img l gw gi gb n_).1.b)), (zu ((igetM img l gw gi gb n_).1.c)), (zu ((igetM img l gw gi gb n_).1.d)), (zu ((igetM img l gw gi gb n_).1.e)), (zu ((igetM img l gw gi gb n_).1.m))] hs13 fun w15 hs17 => ?_
 refine zE 1 (hK8 _ _ ?_)
 refine W.seq fun K18 hK18 => ?_
 refine W.sr fun K19 hK19 => ?_
 refine zR 3 ?_
 rcases Bool.eq_false_or_eq_true (decide ((igetM img l gw gi gb n_).2 = 0)) with h20 | h20
 ·
  have h20p := of_decide_eq_true h20
  refine zS 20 h20 ?_
  refine zS 19 h20 ?_
  refine zR 1 ?_
  refine zL ⟨b14, 0, none⟩ (zu ((igetM img l gw gi gb n_).1.k)) (hs17.cellAt 0 rfl rfl) ?_
  refine zE 2 (hK19 _ _ ?_)
  refine W.cond (!decide ((igetM img l gw gi gb n_).1.k = 2)) (by kernel_rfl) (fun h21 => ?_) (fun h21 => ?_)
  ·
   have h21p : ¬ ((igetM img l gw gi gb n_).1.k = 2) := of_decide_eq_false (bnot_true h21)
   refine W.region ?_
   refine zE 1 (hK18 _ _ ?_)
   refine W.seq fun K22 hK22 => ?_
   refine W.sr fun K23 hK23 => ?_
   refine zE 2 (hK23 _ _ ?_)
   refine W.cond_true true (by kernel_rfl) rfl ?_
   refine W.sr fun K24 hK24 => ?_
   refine zR 2 ?_
   have hs27 := St.f1 hs17
   refine zT 0 [(.pointer none), (zi 0), (zi 0), (zi 0), (.pointer none)] [(.pointer none), (zi 0), (zi 0), (zi 0), (.pointer none)] hs27 fun w25 hs28 => ?_
   refine zE 1 (hK24 _ _ ?_)
   refine W.ret (ret_seq ?_)
   exfalso; omega
  have h21p : (igetM img l gw gi gb n_).1.k = 2 := of_decide_eq_true (bnot_false h21)
  refine W.skip ?_
  refine hK18 _ _ ?_
  refine W.seq fun K29 hK29 => ?_
  refine W.sr fun K30 hK30 => ?_
  refine zE 2 (hK30 _ _ ?_)
  refine W.cond (!decide ((igetM img l gw gi gb n_).2 = 0)) (by kernel_rfl) (fun h31 => ?_) (fun h31 => ?_)
  ·
   have h31p : ¬ ((igetM img l gw gi gb n_).2 = 0) := of_decide_eq_false (bnot_true h31)
   refine W.sr fun K32 hK32 => ?_
   refine zR 2 ?_
   have hs35 := St.f1 hs17
   refine zT 0 [(.pointer none), (zi 0), (zi 0), (zi 0), (.pointer none)] [(.pointer none), (zi 0), (zi 0), (zi 0), (.pointer none)] hs35 fun w33 hs36 => ?_
   refine zE 1 (hK32 _ _ ?_)
   refine W.ret (ret_seq ?_)
   exfalso; omega
  have h31p : (igetM img l gw gi gb n_).2 = 0 := of_decide_eq_true (bnot_false h31)
  refine W.skip ?_
  refine hK29 _ _ ?_
  refine W.sr fun K37 hK37 => ?_
  refine zR 1 ?_
  refine zG ⟨b4, 0, none⟩ [(zi gw), (zi gi), (zi gb)] (cells_sub (hs17.heapAt 2 rfl) rfl) ?_
  refine zR 1 ?_
  rcases Bool.eq_false_or_eq_true (decide ((igetM img l gw gi gb n_).2 = 0)) with h38 | h38
  ·
   have h38p := of_decide_eq_true h38
   refine ops_call0 hs17 (by kernel_rfl) (bof_ok (gw := gw) (gi := gi) (gb := gb) (n_ := n_) (hv := (viewAt_old hs17 hv)) (hP := h38p) B _) ?_
   rintro _ _ w40 ⟨b39, rfl, rfl⟩ hs41
   have hs42 := St.ap1 hs41
   refine zE 5 (hK37 _ _ ?_)
   refine W.sr fun K43 hK43 => ?_
   refine zR 1 ?_
   refine zG ⟨b4, 0, none⟩ [(zi gw), (zi gi), (zi gb)] (cells_sub (hs42.heapAt 3 rfl) rfl) ?_
   refine zR 3 ?_
   have hs46 := St.f2 hs42
   refine zT 0 [(zp vb), (zi gw), (zi gi), (zi gb), (zp b39)] [(zp vb), (zi gw), (zi gi), (zi gb), (zp b39)] hs46 fun w44 hs47 => ?_
   refine zE 1 (hK43 _ _ ?_)
   refine W.ret ?_
   have hs48 := St.f1 hs47
   have hs49 := St.tk1 hs48
   refine ret_of (.tuple #[(.agg #[(zp vb), (zi gw), (zi gi), (zi gb), (zp b39)]), (zi 0)]) (resS_of (by kernel_rfl) (resD_two rfl (.agg (ad := ⟨b7, 0, none⟩) (cs := [(zp vb), (zi gw), (zi gi), (zi gb), (zp b39)]) (by kernel_rfl) (by kernel_rfl) (cells_sub (hs47.heapAt 0 rfl) rfl)) (.tmp (by kernel_rfl)))) ⟨_, ⟨b39, rfl, rfl⟩, hs49⟩
  have h38p := of_decide_eq_false h38
  refine zC00 hs17 (bof_err (gw := gw) (gi := gi) (gb := gb) (n_ := n_) (hv := (viewAt_old hs17 hv)) (hN := h38p) B _) fun w50 hs52 => ?_
  refine zE 5 (hK37 _ _ ?_)
  refine W.sr fun K53 hK53 => ?_
  refine zR 1 ?_
  refine zG ⟨b4, 0, none⟩ [(zi gw), (zi gi), (zi gb)] (cells_sub (hs52.heapAt 2 rfl) rfl) ?_
  refine zR 3 ?_
  have hs56 := St.f1 hs52
  refine zT 0 [(zp vb), (zi gw), (zi gi), (zi gb), (.pointer none)] [(zp vb), (zi gw), (zi gi), (zi gb), (.pointer none)] hs56 fun w54 hs57 => ?_
  refine zE 1 (hK53 _ _ ?_)
  refine W.ret ?_
  exfalso; omega
 have h20p := of_decide_eq_false h20
 refine zS 20 h20 ?_
 refine zS 19 h20 ?_
 refine zE 4 (hK19 _ _ ?_)
 refine W.cond_false false (by kernel_rfl) rfl ?_
 refine W.skip ?_
 refine hK18 _ _ ?_
 refine W.seq fun K58 hK58 => ?_
 refine W.sr fun K59 hK59 => ?_
 refine zE 2 (hK59 _ _ ?_)
 refine W.cond (!decide ((igetM img l gw gi gb n_).2 = 0)) (by kernel_rfl) (fun h60 => ?_) (fun h60 => ?_)
 ·
  have h60p : ¬ ((igetM img l gw gi gb n_).2 = 0) := of_decide_eq_false (bnot_true h60)
  refine W.sr fun K61 hK61 => ?_
  refine zR 2 ?_
  have hs64 := St.f1 hs17
  refine zT 0 [(.pointer none), (zi 0), (zi 0), (zi 0), (.pointer none)] [(.pointer none), (zi 0), (zi 0), (zi 0), (.pointer none)] hs64 fun w62 hs65 => ?_
  refine zE 1 (hK61 _ _ ?_)
  refine W.ret (ret_seq ?_)
  exfalso; omega
 have h60p : (igetM img l gw gi gb n_).2 = 0 := of_decide_eq_true (bnot_false h60)
 refine W.skip ?_
 refine hK58 _ _ ?_
 refine W.sr fun K66 hK66 => ?_
 refine zR 1 ?_
 refine zG ⟨b4, 0, none⟩ [(zi gw), (zi gi), (zi gb)] (cells_sub (hs17.heapAt 2 rfl) rfl) ?_
 refine zR 1 ?_
 rcases Bool.eq_false_or_eq_true (decide ((igetM img l gw gi gb n_).2 = 0)) with h67 | h67
 ·
  have h67p := of_decide_eq_true h67
  refine ops_call0 hs17 (by kernel_rfl) (bof_ok (gw := gw) (gi := gi) (gb := gb) (n_ := n_) (hv := (viewAt_old hs17 hv)) (hP := h67p) B _) ?_
  rintro _ _ w69 ⟨b68, rfl, rfl⟩ hs70
  have hs71 := St.ap1 hs70
  refine zE 5 (hK66 _ _ ?_)
  refine W.sr fun K72 hK72 => ?_
  refine zR 1 ?_
  refine zG ⟨b4, 0, none⟩ [(zi gw), (zi gi), (zi gb)] (cells_sub (hs71.heapAt 3 rfl) rfl) ?_
  refine zR 3 ?_
  have hs75 := St.f2 hs71
  refine zT 0 [(zp vb), (zi gw), (zi gi), (zi gb), (zp b68)] [(zp vb), (zi gw), (zi gi), (zi gb), (zp b68)] hs75 fun w73 hs76 => ?_
  refine zE 1 (hK72 _ _ ?_)
  refine W.ret ?_
  have hs77 := St.f1 hs76
  have hs78 := St.tk1 hs77
  refine ret_of (.tuple #[(.agg #[(zp vb), (zi gw), (zi gi), (zi gb), (zp b68)]), (zi 0)]) (resS_of (by kernel_rfl) (resD_two rfl (.agg (ad := ⟨b7, 0, none⟩) (cs := [(zp vb), (zi gw), (zi gi), (zi gb), (zp b68)]) (by kernel_rfl) (by kernel_rfl) (cells_sub (hs76.heapAt 0 rfl) rfl)) (.tmp (by kernel_rfl)))) ⟨_, ⟨b68, rfl, rfl⟩, hs78⟩
 have h67p := of_decide_eq_false h67
 refine zC00 hs17 (bof_err (gw := gw) (gi := gi) (gb := gb) (n_ := n_) (hv := (viewAt_old hs17 hv)) (hN := h67p) B _) fun w79 hs81 => ?_
 refine zE 5 (hK66 _ _ ?_)
 refine W.sr fun K82 hK82 => ?_
 refine zR 1 ?_
 refine zG ⟨b4, 0, none⟩ [(zi gw), (zi gi), (zi gb)] (cells_sub (hs81.heapAt 2 rfl) rfl) ?_
 refine zR 3 ?_
 have hs85 := St.f1 hs81
 refine zT 0 [(zp vb), (zi gw), (zi gi), (zi gb), (.pointer none)] [(zp vb), (zi gw), (zi gi), (zi gb), (.pointer none)] hs85 fun w83 hs86 => ?_
 refine zE 1 (hK82 _ _ ?_)
 refine W.ret ?_
 exfalso; omega
theorem eopen_dir {vb : Nat} {img : List Int} {l : List (Int × Int)} {gw gi gb n_ : Int} (B : Nat) (w : World) (hv : ViewAt (ptr vb) img l w) (hP : (igetM img l gw gi gb n_).2 = 0) (hK : ¬ ((igetM img l gw gi gb n_).1.k = 2)) : Spec Tryz.prog 45 #[(zp vb), (.agg #[(zi gw), (zi gi), (zi gb)]), (zi n_)] B w [] (fun v H' => v = (.tuple #[(.agg #[(.pointer none), (zi 0), (zi 0), (zi 0), (.pointer none)]), (zi 10)]) ∧ H' = []) := by
 refine spec_Q Tryz.func45 rfl fun hs => ?_
 refine W.sr fun K1 hK1 => ?_
 refine zN [(zi gw), (zi gi), (zi gb)] 31 hs fun b4 w2 hs3 => ?_
 refine zN [(.pointer none), (zi 0), (zi 0), (zi 0), (.pointer none)] 97 hs3 fun b7 w5 hs6 => ?_
 refine zE 1 (hK1 _ _ ?_)
 refine W.sr fun K8 hK8 => ?_
 refine zR 1 ?_
 refine zG ⟨b4, 0, none⟩ [(zi gw), (zi gi), (zi gb)] (cells_sub (hs6.heapAt 1 rfl) rfl) ?_
 refine zR 1 ?_
 refine zC00 hs6 (ig_spec (gw := gw) (gi := gi) (gb := gb) (n_ := n_) (hv := (viewAt_old hs6 hv)) B _) fun w9 hs11 => ?_
 refine zR 3 ?_
 refine zN [(zu 0), (zu 0), (zu 0), (zu 0), (zu 0), (zu 0), (zu 0), (zu 0), (zu 0), (zu 0)] 153 hs11 fun b14 w12 hs13 => ?_
 refine zT 0 [(zu ((igetM img l gw gi gb n_).1.k)), (zu ((igetM img l gw gi gb n_).1.l)), (zu ((igetM img l gw gi gb n_).1.o)), (zu ((igetM img l gw gi gb n_).1.s)), (zu ((igetM img l gw gi gb n_).1.a)), (zu ((igetM img l gw gi gb n_).1.b)), (zu ((igetM img l gw gi gb n_).1.c)), (zu ((igetM img l gw gi gb n_).1.d)), (zu ((igetM img l gw gi gb n_).1.e)), (zu ((igetM img l gw gi gb n_).1.m))] [(zu ((igetM img l gw gi gb n_).1.k)), (zu ((igetM img l gw gi gb n_).1.l)), (zu ((igetM img l gw gi gb n_).1.o)), (zu ((igetM img l gw gi gb n_).1.s)), (zu ((igetM img l gw gi gb n_).1.a)), (zu ((igetM img l gw gi gb n_).1.b)), (zu ((igetM img l gw gi gb n_).1.c)), (zu ((igetM img l gw gi gb n_).1.d)), (zu ((igetM img l gw gi gb n_).1.e)), (zu ((igetM img l gw gi gb n_).1.m))] hs13 fun w15 hs17 => ?_
 refine zE 1 (hK8 _ _ ?_)
 refine W.seq fun K18 hK18 => ?_
 refine W.sr fun K19 hK19 => ?_
 refine zR 3 ?_
 rcases Bool.eq_false_or_eq_true (decide ((igetM img l gw gi gb n_).2 = 0)) with h20 | h20
 ·
  have h20p := of_decide_eq_true h20
  refine zS 20 h20 ?_
  refine zS 19 h20 ?_
  refine zR 1 ?_
  refine zL ⟨b14, 0, none⟩ (zu ((igetM img l gw gi gb n_).1.k)) (hs17.cellAt 0 rfl rfl) ?_
  refine zE 2 (hK19 _ _ ?_)
  refine W.cond (!decide ((igetM img l gw gi gb n_).1.k = 2)) (by kernel_rfl) (fun h21 => ?_) (fun h21 => ?_)
  ·
   have h21p : ¬ ((igetM img l gw gi gb n_).1.k = 2) := of_decide_eq_false (bnot_true h21)
   refine W.region ?_
   refine zE 1 (hK18 _ _ ?_)
   refine W.seq fun K22 hK22 => ?_
   refine W.sr fun K23 hK23 => ?_
   refine zE 2 (hK23 _ _ ?_)
   refine W.cond_true true (by kernel_rfl) rfl ?_
   refine W.sr fun K24 hK24 => ?_
   refine zR 2 ?_
   have hs27 := St.f1 hs17
   refine zT 0 [(.pointer none), (zi 0), (zi 0), (zi 0), (.pointer none)] [(.pointer none), (zi 0), (zi 0), (zi 0), (.pointer none)] hs27 fun w25 hs28 => ?_
   refine zE 1 (hK24 _ _ ?_)
   refine W.ret (ret_seq ?_)
   have hs29 := St.tk0 hs28
   refine ret_of (.tuple #[(.agg #[(.pointer none), (zi 0), (zi 0), (zi 0), (.pointer none)]), (zi 10)]) (resS_of (by kernel_rfl) (resD_two rfl (.agg (ad := ⟨b7, 0, none⟩) (cs := [(.pointer none), (zi 0), (zi 0), (zi 0), (.pointer none)]) (by kernel_rfl) (by kernel_rfl) (cells_sub (hs28.heapAt 0 rfl) rfl)) (.tmp (by kernel_rfl)))) ⟨_, ⟨rfl, rfl⟩, hs29⟩
  have h21p : (igetM img l gw gi gb n_).1.k = 2 := of_decide_eq_true (bnot_false h21)
  refine W.skip ?_
  refine hK18 _ _ ?_
  refine W.seq fun K30 hK30 => ?_
  refine W.sr fun K31 hK31 => ?_
  refine zE 2 (hK31 _ _ ?_)
  refine W.cond (!decide ((igetM img l gw gi gb n_).2 = 0)) (by kernel_rfl) (fun h32 => ?_) (fun h32 => ?_)
  ·
   have h32p : ¬ ((igetM img l gw gi gb n_).2 = 0) := of_decide_eq_false (bnot_true h32)
   refine W.sr fun K33 hK33 => ?_
   refine zR 2 ?_
   have hs36 := St.f1 hs17
   refine zT 0 [(.pointer none), (zi 0), (zi 0), (zi 0), (.pointer none)] [(.pointer none), (zi 0), (zi 0), (zi 0), (.pointer none)] hs36 fun w34 hs37 => ?_
   refine zE 1 (hK33 _ _ ?_)
   refine W.ret (ret_seq ?_)
   exfalso; omega
  have h32p : (igetM img l gw gi gb n_).2 = 0 := of_decide_eq_true (bnot_false h32)
  refine W.skip ?_
  refine hK30 _ _ ?_
  refine W.sr fun K38 hK38 => ?_
  refine zR 1 ?_
  refine zG ⟨b4, 0, none⟩ [(zi gw), (zi gi), (zi gb)] (cells_sub (hs17.heapAt 2 rfl) rfl) ?_
  refine zR 1 ?_
  rcases Bool.eq_false_or_eq_true (decide ((igetM img l gw gi gb n_).2 = 0)) with h39 | h39
  ·
   have h39p := of_decide_eq_true h39
   refine ops_call0 hs17 (by kernel_rfl) (bof_ok (gw := gw) (gi := gi) (gb := gb) (n_ := n_) (hv := (viewAt_old hs17 hv)) (hP := h39p) B _) ?_
   rintro _ _ w41 ⟨b40, rfl, rfl⟩ hs42
   have hs43 := St.ap1 hs42
   refine zE 5 (hK38 _ _ ?_)
   refine W.sr fun K44 hK44 => ?_
   refine zR 1 ?_
   refine zG ⟨b4, 0, none⟩ [(zi gw), (zi gi), (zi gb)] (cells_sub (hs43.heapAt 3 rfl) rfl) ?_
   refine zR 3 ?_
   have hs47 := St.f2 hs43
   refine zT 0 [(zp vb), (zi gw), (zi gi), (zi gb), (zp b40)] [(zp vb), (zi gw), (zi gi), (zi gb), (zp b40)] hs47 fun w45 hs48 => ?_
   refine zE 1 (hK44 _ _ ?_)
   refine W.ret ?_
   exfalso; omega
  have h39p := of_decide_eq_false h39
  refine zC00 hs17 (bof_err (gw := gw) (gi := gi) (gb := gb) (n_ := n_) (hv := (viewAt_old hs17 hv)) (hN := h39p) B _) fun w49 hs51 => ?_
  refine zE 5 (hK38 _ _ ?_)
  refine W.sr fun K52 hK52 => ?_
  refine zR 1 ?_
  refine zG ⟨b4, 0, none⟩ [(zi gw), (zi gi), (zi gb)] (cells_sub (hs51.heapAt 2 rfl) rfl) ?_
  refine zR 3 ?_
  have hs55 := St.f1 hs51
  refine zT 0 [(zp vb), (zi gw), (zi gi), (zi gb), (.pointer none)] [(zp vb), (zi gw), (zi gi), (zi gb), (.pointer none)] hs55 fun w53 hs56 => ?_
  refine zE 1 (hK52 _ _ ?_)
  refine W.ret ?_
  exfalso; omega
 have h20p := of_decide_eq_false h20
 refine zS 20 h20 ?_
 refine zS 19 h20 ?_
 refine zE 4 (hK19 _ _ ?_)
 refine W.cond_false false (by kernel_rfl) rfl ?_
 refine W.skip ?_
 refine hK18 _ _ ?_
 refine W.seq fun K57 hK57 => ?_
 refine W.sr fun K58 hK58 => ?_
 refine zE 2 (hK58 _ _ ?_)
 refine W.cond (!decide ((igetM img l gw gi gb n_).2 = 0)) (by kernel_rfl) (fun h59 => ?_) (fun h59 => ?_)
 ·
  have h59p : ¬ ((igetM img l gw gi gb n_).2 = 0) := of_decide_eq_false (bnot_true h59)
  refine W.sr fun K60 hK60 => ?_
  refine zR 2 ?_
  have hs63 := St.f1 hs17
  refine zT 0 [(.pointer none), (zi 0), (zi 0), (zi 0), (.pointer none)] [(.pointer none), (zi 0), (zi 0), (zi 0), (.pointer none)] hs63 fun w61 hs64 => ?_
  refine zE 1 (hK60 _ _ ?_)
  refine W.ret (ret_seq ?_)
  exfalso; omega
 have h59p : (igetM img l gw gi gb n_).2 = 0 := of_decide_eq_true (bnot_false h59)
 refine W.skip ?_
 refine hK57 _ _ ?_
 refine W.sr fun K65 hK65 => ?_
 refine zR 1 ?_
 refine zG ⟨b4, 0, none⟩ [(zi gw), (zi gi), (zi gb)] (cells_sub (hs17.heapAt 2 rfl) rfl) ?_
 refine zR 1 ?_
 rcases Bool.eq_false_or_eq_true (decide ((igetM img l gw gi gb n_).2 = 0)) with h66 | h66
 ·
  have h66p := of_decide_eq_true h66
  refine ops_call0 hs17 (by kernel_rfl) (bof_ok (gw := gw) (gi := gi) (gb := gb) (n_ := n_) (hv := (viewAt_old hs17 hv)) (hP := h66p) B _) ?_
  rintro _ _ w68 ⟨b67, rfl, rfl⟩ hs69
  have hs70 := St.ap1 hs69
  refine zE 5 (hK65 _ _ ?_)
  refine W.sr fun K71 hK71 => ?_
  refine zR 1 ?_
  refine zG ⟨b4, 0, none⟩ [(zi gw), (zi gi), (zi gb)] (cells_sub (hs70.heapAt 3 rfl) rfl) ?_
  refine zR 3 ?_
  have hs74 := St.f2 hs70
  refine zT 0 [(zp vb), (zi gw), (zi gi), (zi gb), (zp b67)] [(zp vb), (zi gw), (zi gi), (zi gb), (zp b67)] hs74 fun w72 hs75 => ?_
  refine zE 1 (hK71 _ _ ?_)
  refine W.ret ?_
  exfalso; omega
 have h66p := of_decide_eq_false h66
 refine zC00 hs17 (bof_err (gw := gw) (gi := gi) (gb := gb) (n_ := n_) (hv := (viewAt_old hs17 hv)) (hN := h66p) B _) fun w76 hs78 => ?_
 refine zE 5 (hK65 _ _ ?_)
 refine W.sr fun K79 hK79 => ?_
 refine zR 1 ?_
 refine zG ⟨b4, 0, none⟩ [(zi gw), (zi gi), (zi gb)] (cells_sub (hs78.heapAt 2 rfl) rfl) ?_
 refine zR 3 ?_
 have hs82 := St.f1 hs78
 refine zT 0 [(zp vb), (zi gw), (zi gi), (zi gb), (.pointer none)] [(zp vb), (zi gw), (zi gi), (zi gb), (.pointer none)] hs82 fun w80 hs83 => ?_
 refine zE 1 (hK79 _ _ ?_)
 refine W.ret ?_
 exfalso; omega
theorem eopen_err {vb : Nat} {img : List Int} {l : List (Int × Int)} {gw gi gb n_ : Int} (B : Nat) (w : World) (hv : ViewAt (ptr vb) img l w) (hN : ¬ ((igetM img l gw gi gb n_).2 = 0)) : Spec Tryz.prog 45 #[(zp vb), (.agg #[(zi gw), (zi gi), (zi gb)]), (zi n_)] B w [] (fun v H' => v = (.tuple #[(.agg #[(.pointer none), (zi 0), (zi 0), (zi 0), (.pointer none)]), (zi ((igetM img l gw gi gb n_).2))]) ∧ H' = []) := by
 refine spec_Q Tryz.func45 rfl fun hs => ?_
 refine W.sr fun K1 hK1 => ?_
 refine zN [(zi gw), (zi gi), (zi gb)] 31 hs fun b4 w2 hs3 => ?_
 refine zN [(.pointer none), (zi 0), (zi 0), (zi 0), (.pointer none)] 97 hs3 fun b7 w5 hs6 => ?_
 refine zE 1 (hK1 _ _ ?_)
 refine W.sr fun K8 hK8 => ?_
 refine zR 1 ?_
 refine zG ⟨b4, 0, none⟩ [(zi gw), (zi gi), (zi gb)] (cells_sub (hs6.heapAt 1 rfl) rfl) ?_
 refine zR 1 ?_
 refine zC00 hs6 (ig_spec (gw := gw) (gi := gi) (gb := gb) (n_ := n_) (hv := (viewAt_old hs6 hv)) B _) fun w9 hs11 => ?_
 refine zR 3 ?_
 refine zN [(zu 0), (zu 0), (zu 0), (zu 0), (zu 0), (zu 0), (zu 0), (zu 0), (zu 0), (zu 0)] 153 hs11 fun b14 w12 hs13 => ?_
 refine zT 0 [(zu ((igetM img l gw gi gb n_).1.k)), (zu ((igetM img l gw gi gb n_).1.l)), (zu ((igetM img l gw gi gb n_).1.o)), (zu ((igetM img l gw gi gb n_).1.s)), (zu ((igetM img l gw gi gb n_).1.a)), (zu ((igetM img l gw gi gb n_).1.b)), (zu ((igetM img l gw gi gb n_).1.c)), (zu ((igetM img l gw gi gb n_).1.d)), (zu ((igetM img l gw gi gb n_).1.e)), (zu ((igetM img l gw gi gb n_).1.m))] [(zu ((igetM img l gw gi gb n_).1.k)), (zu ((igetM img l gw gi gb n_).1.l)), (zu ((igetM img l gw gi gb n_).1.o)), (zu ((igetM img l gw gi gb n_).1.s)), (zu ((igetM img l gw gi gb n_).1.a)), (zu ((igetM img l gw gi gb n_).1.b)), (zu ((igetM img l gw gi gb n_).1.c)), (zu ((igetM img l gw gi gb n_).1.d)), (zu ((igetM img l gw gi gb n_).1.e)), (zu ((igetM img l gw gi gb n_).1.m))] hs13 fun w15 hs17 => ?_
 refine zE 1 (hK8 _ _ ?_)
 refine W.seq fun K18 hK18 => ?_
 refine W.sr fun K19 hK19 => ?_
 refine zR 3 ?_
 rcases Bool.eq_false_or_eq_true (decide ((igetM img l gw gi gb n_).2 = 0)) with h20 | h20
 ·
  have h20p := of_decide_eq_true h20
  refine zS 20 h20 ?_
  refine zS 19 h20 ?_
  refine zR 1 ?_
  refine zL ⟨b14, 0, none⟩ (zu ((igetM img l gw gi gb n_).1.k)) (hs17.cellAt 0 rfl rfl) ?_
  refine zE 2 (hK19 _ _ ?_)
  refine W.cond (!decide ((igetM img l gw gi gb n_).1.k = 2)) (by kernel_rfl) (fun h21 => ?_) (fun h21 => ?_)
  ·
   have h21p : ¬ ((igetM img l gw gi gb n_).1.k = 2) := of_decide_eq_false (bnot_true h21)
   refine W.region ?_
   refine zE 1 (hK18 _ _ ?_)
   refine W.seq fun K22 hK22 => ?_
   refine W.sr fun K23 hK23 => ?_
   refine zE 2 (hK23 _ _ ?_)
   refine W.cond_true true (by kernel_rfl) rfl ?_
   refine W.sr fun K24 hK24 => ?_
   refine zR 2 ?_
   have hs27 := St.f1 hs17
   refine zT 0 [(.pointer none), (zi 0), (zi 0), (zi 0), (.pointer none)] [(.pointer none), (zi 0), (zi 0), (zi 0), (.pointer none)] hs27 fun w25 hs28 => ?_
   refine zE 1 (hK24 _ _ ?_)
   refine W.ret (ret_seq ?_)
   exfalso; omega
  have h21p : (igetM img l gw gi gb n_).1.k = 2 := of_decide_eq_true (bnot_false h21)
  refine W.skip ?_
  refine hK18 _ _ ?_
  refine W.seq fun K29 hK29 => ?_
  refine W.sr fun K30 hK30 => ?_
  refine zE 2 (hK30 _ _ ?_)
  refine W.cond (!decide ((igetM img l gw gi gb n_).2 = 0)) (by kernel_rfl) (fun h31 => ?_) (fun h31 => ?_)
  ·
   have h31p : ¬ ((igetM img l gw gi gb n_).2 = 0) := of_decide_eq_false (bnot_true h31)
   refine W.sr fun K32 hK32 => ?_
   refine zR 2 ?_
   have hs35 := St.f1 hs17
   refine zT 0 [(.pointer none), (zi 0), (zi 0), (zi 0), (.pointer none)] [(.pointer none), (zi 0), (zi 0), (zi 0), (.pointer none)] hs35 fun w33 hs36 => ?_
   refine zE 1 (hK32 _ _ ?_)
   refine W.ret (ret_seq ?_)
   have hs37 := St.tk0 hs36
   refine ret_of (.tuple #[(.agg #[(.pointer none), (zi 0), (zi 0), (zi 0), (.pointer none)]), (zi ((igetM img l gw gi gb n_).2))]) (resS_of (by kernel_rfl) (resD_two rfl (.agg (ad := ⟨b7, 0, none⟩) (cs := [(.pointer none), (zi 0), (zi 0), (zi 0), (.pointer none)]) (by kernel_rfl) (by kernel_rfl) (cells_sub (hs36.heapAt 0 rfl) rfl)) (.tmp (by kernel_rfl)))) ⟨_, ⟨rfl, rfl⟩, hs37⟩
  have h31p : (igetM img l gw gi gb n_).2 = 0 := of_decide_eq_true (bnot_false h31)
  refine W.skip ?_
  refine hK29 _ _ ?_
  refine W.sr fun K38 hK38 => ?_
  refine zR 1 ?_
  refine zG ⟨b4, 0, none⟩ [(zi gw), (zi gi), (zi gb)] (cells_sub (hs17.heapAt 2 rfl) rfl) ?_
  refine zR 1 ?_
  rcases Bool.eq_false_or_eq_true (decide ((igetM img l gw gi gb n_).2 = 0)) with h39 | h39
  ·
   have h39p := of_decide_eq_true h39
   refine ops_call0 hs17 (by kernel_rfl) (bof_ok (gw := gw) (gi := gi) (gb := gb) (n_ := n_) (hv := (viewAt_old hs17 hv)) (hP := h39p) B _) ?_
   rintro _ _ w41 ⟨b40, rfl, rfl⟩ hs42
   have hs43 := St.ap1 hs42
   refine zE 5 (hK38 _ _ ?_)
   refine W.sr fun K44 hK44 => ?_
   refine zR 1 ?_
   refine zG ⟨b4, 0, none⟩ [(zi gw), (zi gi), (zi gb)] (cells_sub (hs43.heapAt 3 rfl) rfl) ?_
   refine zR 3 ?_
   have hs47 := St.f2 hs43
   refine zT 0 [(zp vb), (zi gw), (zi gi), (zi gb), (zp b40)] [(zp vb), (zi gw), (zi gi), (zi gb), (zp b40)] hs47 fun w45 hs48 => ?_
   refine zE 1 (hK44 _ _ ?_)
   refine W.ret ?_
   exfalso; omega
  have h39p := of_decide_eq_false h39
  refine zC00 hs17 (bof_err (gw := gw) (gi := gi) (gb := gb) (n_ := n_) (hv := (viewAt_old hs17 hv)) (hN := h39p) B _) fun w49 hs51 => ?_
  refine zE 5 (hK38 _ _ ?_)
  refine W.sr fun K52 hK52 => ?_
  refine zR 1 ?_
  refine zG ⟨b4, 0, none⟩ [(zi gw), (zi gi), (zi gb)] (cells_sub (hs51.heapAt 2 rfl) rfl) ?_
  refine zR 3 ?_
  have hs55 := St.f1 hs51
  refine zT 0 [(zp vb), (zi gw), (zi gi), (zi gb), (.pointer none)] [(zp vb), (zi gw), (zi gi), (zi gb), (.pointer none)] hs55 fun w53 hs56 => ?_
  refine zE 1 (hK52 _ _ ?_)
  refine W.ret ?_
  exfalso; omega
 have h20p := of_decide_eq_false h20
 refine zS 20 h20 ?_
 refine zS 19 h20 ?_
 refine zE 4 (hK19 _ _ ?_)
 refine W.cond_false false (by kernel_rfl) rfl ?_
 refine W.skip ?_
 refine hK18 _ _ ?_
 refine W.seq fun K57 hK57 => ?_
 refine W.sr fun K58 hK58 => ?_
 refine zE 2 (hK58 _ _ ?_)
 refine W.cond (!decide ((igetM img l gw gi gb n_).2 = 0)) (by kernel_rfl) (fun h59 => ?_) (fun h59 => ?_)
 ·
  have h59p : ¬ ((igetM img l gw gi gb n_).2 = 0) := of_decide_eq_false (bnot_true h59)
  refine W.sr fun K60 hK60 => ?_
  refine zR 2 ?_
  have hs63 := St.f1 hs17
  refine zT 0 [(.pointer none), (zi 0), (zi 0), (zi 0), (.pointer none)] [(.pointer none), (zi 0), (zi 0), (zi 0), (.pointer none)] hs63 fun w61 hs64 => ?_
  refine zE 1 (hK60 _ _ ?_)
  refine W.ret (ret_seq ?_)
  have hs65 := St.tk0 hs64
  refine ret_of (.tuple #[(.agg #[(.pointer none), (zi 0), (zi 0), (zi 0), (.pointer none)]), (zi ((igetM img l gw gi gb n_).2))]) (resS_of (by kernel_rfl) (resD_two rfl (.agg (ad := ⟨b7, 0, none⟩) (cs := [(.pointer none), (zi 0), (zi 0), (zi 0), (.pointer none)]) (by kernel_rfl) (by kernel_rfl) (cells_sub (hs64.heapAt 0 rfl) rfl)) (.tmp (by kernel_rfl)))) ⟨_, ⟨rfl, rfl⟩, hs65⟩
 have h59p : (igetM img l gw gi gb n_).2 = 0 := of_decide_eq_true (bnot_false h59)
 refine W.skip ?_
 refine hK57 _ _ ?_
 refine W.sr fun K66 hK66 => ?_
 refine zR 1 ?_
 refine zG ⟨b4, 0, none⟩ [(zi gw), (zi gi), (zi gb)] (cells_sub (hs17.heapAt 2 rfl) rfl) ?_
 refine zR 1 ?_
 rcases Bool.eq_false_or_eq_true (decide ((igetM img l gw gi gb n_).2 = 0)) with h67 | h67
 ·
  have h67p := of_decide_eq_true h67
  refine ops_call0 hs17 (by kernel_rfl) (bof_ok (gw := gw) (gi := gi) (gb := gb) (n_ := n_) (hv := (viewAt_old hs17 hv)) (hP := h67p) B _) ?_
  rintro _ _ w69 ⟨b68, rfl, rfl⟩ hs70
  have hs71 := St.ap1 hs70
  refine zE 5 (hK66 _ _ ?_)
  refine W.sr fun K72 hK72 => ?_
  refine zR 1 ?_
  refine zG ⟨b4, 0, none⟩ [(zi gw), (zi gi), (zi gb)] (cells_sub (hs71.heapAt 3 rfl) rfl) ?_
  refine zR 3 ?_
  have hs75 := St.f2 hs71
  refine zT 0 [(zp vb), (zi gw), (zi gi), (zi gb), (zp b68)] [(zp vb), (zi gw), (zi gi), (zi gb), (zp b68)] hs75 fun w73 hs76 => ?_
  refine zE 1 (hK72 _ _ ?_)
  refine W.ret ?_
  exfalso; omega
 have h67p := of_decide_eq_false h67
 refine zC00 hs17 (bof_err (gw := gw) (gi := gi) (gb := gb) (n_ := n_) (hv := (viewAt_old hs17 hv)) (hN := h67p) B _) fun w77 hs79 => ?_
 refine zE 5 (hK66 _ _ ?_)
 refine W.sr fun K80 hK80 => ?_
 refine zR 1 ?_
 refine zG ⟨b4, 0, none⟩ [(zi gw), (zi gi), (zi gb)] (cells_sub (hs79.heapAt 2 rfl) rfl) ?_
 refine zR 3 ?_
 have hs83 := St.f1 hs79
 refine zT 0 [(zp vb), (zi gw), (zi gi), (zi gb), (.pointer none)] [(zp vb), (zi gw), (zi gi), (zi gb), (.pointer none)] hs83 fun w81 hs84 => ?_
 refine zE 1 (hK80 _ _ ?_)
 refine W.ret ?_
 exfalso; omega
end Go.Proofs.YtmmclabkkigiaaaGreatDoor

set_option maxRecDepth 20000
set_option maxHeartbeats 4000000
namespace Go.Proofs.YtmmclabkkigiaaaGreatDoor
open Go Go.RowKit
def eFind_M (img : List Int) (l : List (Int × Int)) (gw : Int) (gi : Int) (gb : Int) (n_ : Int) (tx_ : ByteArray) : Option (ByteArray × Int × Int × Int) :=
 if (igetM img l gw gi gb n_).2 = 0 then (if (igetM img l gw gi gb n_).1.k = 2 then ((tfind_M img l gw gi gb n_ tx_).bind fun r25 =>
some (r25.1, r25.2.1, r25.2.2.1, r25.2.2.2)) else (some (ByteArray.empty, 0, 0, 10))) else ((some ((igetM img l gw gi gb n_).2)).bind fun r65 =>
if r65 = 0 then (none) else (some (ByteArray.empty, 0, 0, r65)))
theorem eFind_walk {img : List Int} {l : List (Int × Int)} {gw : Int} {gi : Int} {gb : Int} {n_ : Int} {tx_ : ByteArray} {vb : Nat} {r : ByteArray × Int × Int × Int} (B : Nat) (w : World) (hm : eFind_M img l gw gi gb n_ tx_ = some r) : Spec Tryz.prog 13 #[(zp vb), (.agg #[(zi gw), (zi gi), (zi gb)]), (zi n_), (.string tx_)] B w [viewA (ptr vb) img l] (fun v H' => v = (.tuple #[(.agg #[(.string r.1), (zi r.2.1)]), (zi r.2.2.1), (zi r.2.2.2)]) ∧ H' = [viewA (ptr vb) img l]) := by
 refine spec_W Tryz.func13 rfl fun l0 hs => ?_
 unfold eFind_M at hm
 refine W.sr fun K1 hK1 => ?_
 refine zN [(zi gw), (zi gi), (zi gb)] 31 hs fun b4 w2 hs3 => ?_
 refine zN [(.string ByteArray.empty), (zi 0)] 33 hs3 fun b7 w5 hs6 => ?_
 refine zE 2 (hK1 _ _ ?_)
 refine W.sr fun K9 hK9 => ?_
 refine zR 1 ?_
 refine zG ⟨b4, 0, none⟩ [(zi gw), (zi gi), (zi gb)] (cells_sub (hs6.heapAt 1 rfl) rfl) ?_
 refine zR 1 ?_
 rcases Bool.eq_false_or_eq_true (decide ((igetM img l gw gi gb n_).2 = 0)) with h10 | h10
 ·
  obtain ⟨h10p, hm⟩ := iY hm h10
  rcases Bool.eq_false_or_eq_true (decide ((igetM img l gw gi gb n_).1.k = 2)) with h11 | h11
  ·
   obtain ⟨h11p, hm⟩ := iY hm h11
   refine ops_call0 hs6 (by kernel_rfl) (eopen_ok (gw := gw) (gi := gi) (gb := gb) (n_ := n_) (hv := (hs6.entAt 2 rfl viewA_at)) (hP := h10p) (hK := h11p) B _) ?_
   rintro _ _ w13 ⟨b12, rfl, rfl⟩ hs14
   have hs15 := St.ap1 hs14
   refine zR 3 ?_
   refine zN [(.pointer none), (zi 0), (zi 0), (zi 0), (.pointer none)] 97 hs15 fun b18 w16 hs17 => ?_
   refine zT 0 [(zp vb), (zi gw), (zi gi), (zi gb), (zp b12)] [(zp vb), (zi gw), (zi gi), (zi gb), (zp b12)] hs17 fun w19 hs21 => ?_
   refine zE 1 (hK9 _ _ ?_)
   refine W.seq fun K22 hK22 => ?_
   refine W.sr fun K23 hK23 => ?_
   refine zE 2 (hK23 _ _ ?_)
   refine W.cond_false false (by kernel_rfl) rfl ?_
   refine W.skip ?_
   refine hK22 _ _ ?_
   refine W.sr fun K24 hK24 => ?_
   refine zG ⟨b18, 0, none⟩ [(zp vb), (zi gw), (zi gi), (zi gb), (zp b12)] (cells_sub (hs21.heapAt 0 rfl) rfl) ?_
   refine zR 1 ?_
   obtain ⟨r25, h26, hm⟩ := bind_some hm
   have hs27 := St.f4 hs21
   have hs28 := St.f2 hs27
   refine zC22 hs28 (tfind_walk (mb := b12) (vb := vb) (tx_ := tx_) (img := img) (l := l) (gw := gw) (gi := gi) (gb := gb) (n_ := n_) (hm := h26) B _) fun w29 hs31 => ?_
   refine zR 3 ?_
   have hs34 := St.f3 hs31
   refine zT 0 [(.string r25.1), (zi r25.2.1)] [(.string r25.1), (zi r25.2.1)] hs34 fun w32 hs35 => ?_
   refine zE 2 (hK24 _ _ ?_)
   refine W.ret ?_
   obtain rfl := some_inj hm
   have hs36 := St.f2 hs35
   have hs37 := St.tk1 hs36
   refine ret_of (.tuple #[(.agg #[(.string r25.1), (zi r25.2.1)]), (zi r25.2.2.1), (zi r25.2.2.2)]) (resS_of (by kernel_rfl) (resD_three rfl (.agg (ad := ⟨b7, 0, none⟩) (cs := [(.string r25.1), (zi r25.2.1)]) (by kernel_rfl) (by kernel_rfl) (cells_sub (hs35.heapAt 0 rfl) rfl)) (.tmp (by kernel_rfl)) (.tmp (by kernel_rfl)))) ⟨_, ⟨rfl, rfl⟩, hs37⟩
  obtain ⟨h11p, hm⟩ := iN hm h11
  refine zC00 hs6 (eopen_dir (gw := gw) (gi := gi) (gb := gb) (n_ := n_) (hv := (hs6.entAt 2 rfl viewA_at)) (hP := h10p) (hK := h11p) B _) fun w38 hs40 => ?_
  refine zR 3 ?_
  refine zN [(.pointer none), (zi 0), (zi 0), (zi 0), (.pointer none)] 97 hs40 fun b43 w41 hs42 => ?_
  refine zT 0 [(.pointer none), (zi 0), (zi 0), (zi 0), (.pointer none)] [(.pointer none), (zi 0), (zi 0), (zi 0), (.pointer none)] hs42 fun w44 hs46 => ?_
  refine zE 1 (hK9 _ _ ?_)
  refine W.seq fun K47 hK47 => ?_
  refine W.sr fun K48 hK48 => ?_
  refine zE 2 (hK48 _ _ ?_)
  refine W.cond_true true (by kernel_rfl) rfl ?_
  refine W.sr fun K49 hK49 => ?_
  refine zR 2 ?_
  have hs52 := St.f1 hs46
  refine zT 0 [(.string ByteArray.empty), (zi 0)] [(.string ByteArray.empty), (zi 0)] hs52 fun w50 hs53 => ?_
  refine zE 2 (hK49 _ _ ?_)
  refine W.ret (ret_seq ?_)
  obtain rfl := some_inj hm
  have hs54 := St.f3 hs53
  have hs55 := St.tk1 hs54
  refine ret_of (.tuple #[(.agg #[(.string ByteArray.empty), (zi 0)]), (zi 0), (zi 10)]) (resS_of (by kernel_rfl) (resD_three rfl (.agg (ad := ⟨b7, 0, none⟩) (cs := [(.string ByteArray.empty), (zi 0)]) (by kernel_rfl) (by kernel_rfl) (cells_sub (hs53.heapAt 0 rfl) rfl)) (.tmp (by kernel_rfl)) (.tmp (by kernel_rfl)))) ⟨_, ⟨rfl, rfl⟩, hs55⟩
 obtain ⟨h10p, hm⟩ := iN hm h10
 refine zC00 hs6 (eopen_err (gw := gw) (gi := gi) (gb := gb) (n_ := n_) (hv := (hs6.entAt 2 rfl viewA_at)) (hN := h10p) B _) fun w56 hs58 => ?_
 refine zR 3 ?_
 refine zN [(.pointer none), (zi 0), (zi 0), (zi 0), (.pointer none)] 97 hs58 fun b61 w59 hs60 => ?_
 refine zT 0 [(.pointer none), (zi 0), (zi 0), (zi 0), (.pointer none)] [(.pointer none), (zi 0), (zi 0), (zi 0), (.pointer none)] hs60 fun w62 hs64 => ?_
 refine zR 1 ?_
 obtain ⟨r65, h66, hm⟩ := bind_some hm
 replace h66 := some_inj h66
 refine ops_set 12 (v := .int .i64 r65) (Eq.trans (by kernel_rfl) (congrArg (Value.int .i64) h66)) ?_
 refine zD (hK9 _ _ ?_)
 refine W.seq fun K67 hK67 => ?_
 refine W.sr fun K68 hK68 => ?_
 refine zE 2 (hK68 _ _ ?_)
 refine W.cond (!decide (r65 = 0)) (by kernel_rfl) (fun h69 => ?_) (fun h69 => ?_)
 rotate_left
 ·
  have h69p : r65 = 0 := of_decide_eq_true (bnot_false h69)
  exact absurd h69p (fun e_ => h10p (h66.trans e_))
 have h69p : ¬ (r65 = 0) := of_decide_eq_false (bnot_true h69)
 replace hm := ite_no hm h69p
 refine W.sr fun K70 hK70 => ?_
 refine zR 2 ?_
 have hs73 := St.f1 hs64
 refine zT 0 [(.string ByteArray.empty), (zi 0)] [(.string ByteArray.empty), (zi 0)] hs73 fun w71 hs74 => ?_
 refine zE 2 (hK70 _ _ ?_)
 refine W.ret (ret_seq ?_)
 obtain rfl := some_inj hm
 have hs75 := St.f3 hs74
 have hs76 := St.tk1 hs75
 refine ret_of (.tuple #[(.agg #[(.string ByteArray.empty), (zi 0)]), (zi 0), (zi r65)]) (resS_of (by kernel_rfl) (resD_three rfl (.agg (ad := ⟨b7, 0, none⟩) (cs := [(.string ByteArray.empty), (zi 0)]) (by kernel_rfl) (by kernel_rfl) (cells_sub (hs74.heapAt 0 rfl) rfl)) (.tmp (by kernel_rfl)) (.tmp (by kernel_rfl)))) ⟨_, ⟨rfl, rfl⟩, hs76⟩
end Go.Proofs.YtmmclabkkigiaaaGreatDoor

set_option maxRecDepth 20000
set_option maxHeartbeats 2000000
namespace Go.Proofs.YtmmclabkkigiaaaGreatDoor
open Go Go.RowKit
def bneed_M (img : List Int) (l : List (Int × Int)) (gw : Int) (gi : Int) (gb : Int) (n_ : Int) (k_ : Int) : Option (Int) :=
 (bat_M img l gw gi gb n_ k_).bind fun r3 =>
if r3.2 = 0 then (if r3.1 = 0 then ((bword_M img l gw gi gb n_ k_).bind fun r14 =>
if r14.2 = true then (some 1) else (some 2)) else (some 0)) else (some 0)
theorem bneed_walk {img : List Int} {l : List (Int × Int)} {gw : Int} {gi : Int} {gb : Int} {n_ : Int} {k_ : Int} {mb vb : Nat} {r : Int} (B : Nat) (w : World) (hmb : w.heap[mb]? = some (.cells [(zp vb), (zi gw), (zi gi), (zi gb), (zi n_)].toArray 164 (0, 0))) (hv : ViewAt (ptr vb) img l w) (hm : bneed_M img l gw gi gb n_ k_ = some r) : Spec Tryz.prog 117 #[(zp mb), (zi k_)] B w [] (fun v H' => v = (zi r) ∧ H' = []) := by
 refine spec_Q Tryz.func117 rfl fun hs => ?_
 unfold bneed_M at hm
 refine W.sr fun K1 hK1 => ?_
 refine zE 1 (hK1 _ _ ?_)
 refine W.sr fun K2 hK2 => ?_
 refine zR 2 ?_
 obtain ⟨r3, h4, hm⟩ := bind_some hm
 refine zC00 hs (bat_walk (k_ := k_) (img := img) (l := l) (gw := gw) (gi := gi) (gb := gb) (n_ := n_) (hmb := (hs.old hmb)) (hv := (viewAt_old hs hv)) (hm := h4) B _) fun w5 hs7 => ?_
 refine zE 5 (hK2 _ _ ?_)
 refine W.seq fun K8 hK8 => ?_
 refine W.sr fun K9 hK9 => ?_
 refine zR 3 ?_
 rcases Bool.eq_false_or_eq_true (!decide (r3.2 = 0)) with h10 | h10
 rotate_left
 ·
  have h10p : r3.2 = 0 := of_decide_eq_true (bnot_false h10)
  replace hm := ite_yes hm h10p
  refine zS 17 h10 ?_
  refine zS 16 h10 ?_
  refine zE 3 (hK9 _ _ ?_)
  refine W.cond (!decide (r3.1 = 0)) (by kernel_rfl) (fun h11 => ?_) (fun h11 => ?_)
  rotate_left
  ·
   have h11p : r3.1 = 0 := of_decide_eq_true (bnot_false h11)
   replace hm := ite_yes hm h11p
   refine W.skip ?_
   refine hK8 _ _ ?_
   refine W.seq fun K12 hK12 => ?_
   refine W.sr fun K13 hK13 => ?_
   refine zR 2 ?_
   obtain ⟨r14, h15, hm⟩ := bind_some hm
   refine zC00 hs7 (bword_walk (k_ := k_) (img := img) (l := l) (gw := gw) (gi := gi) (gb := gb) (n_ := n_) (hmb := (hs7.old hmb)) (hv := (viewAt_old hs7 hv)) (hm := h15) B _) fun w16 hs18 => ?_
   refine zE 5 (hK13 _ _ ?_)
   refine W.sr fun K19 hK19 => ?_
   refine zE 2 (hK19 _ _ ?_)
   refine W.cond (!r14.2) (by kernel_rfl) (fun h20 => ?_) (fun h20 => ?_)
   rotate_left
   ·
    have h20p : r14.2 = true := (bnot_false h20)
    replace hm := ite_yes hm h20p
    refine W.skip ?_
    refine hK12 _ _ ?_
    refine W.sr fun K21 hK21 => ?_
    refine zE 1 (hK21 _ _ ?_)
    refine W.ret ?_
    obtain rfl := some_inj hm
    refine ret_of (zi 1) (by kernel_rfl) ⟨_, ⟨rfl, rfl⟩, hs18⟩
   have h20p : ¬ (r14.2 = true) := ne_true_of_eq_false (bnot_true h20)
   replace hm := ite_no hm h20p
   refine W.sr fun K22 hK22 => ?_
   refine zE 1 (hK22 _ _ ?_)
   refine W.ret (ret_seq ?_)
   obtain rfl := some_inj hm
   refine ret_of (zi 2) (by kernel_rfl) ⟨_, ⟨rfl, rfl⟩, hs18⟩
  have h11p : ¬ (r3.1 = 0) := of_decide_eq_false (bnot_true h11)
  replace hm := ite_no hm h11p
  refine W.sr fun K23 hK23 => ?_
  refine zE 1 (hK23 _ _ ?_)
  refine W.ret (ret_seq ?_)
  obtain rfl := some_inj hm
  refine ret_of (zi 0) (by kernel_rfl) ⟨_, ⟨rfl, rfl⟩, hs7⟩
 have h10p : ¬ (r3.2 = 0) := of_decide_eq_false (bnot_true h10)
 replace hm := ite_no hm h10p
 refine zS 17 h10 ?_
 refine zS 16 h10 ?_
 refine zE 3 (hK9 _ _ ?_)
 refine W.cond_true true (by kernel_rfl) rfl ?_
 refine W.sr fun K24 hK24 => ?_
 refine zE 1 (hK24 _ _ ?_)
 refine W.ret (ret_seq ?_)
 obtain rfl := some_inj hm
 refine ret_of (zi 0) (by kernel_rfl) ⟨_, ⟨rfl, rfl⟩, hs7⟩
def bbare_B0 (img : List Int) (l : List (Int × Int)) (gw : Int) (gi : Int) (gb : Int) (b_ : Int) (k5 : Int → Option (Bool)) (p4 : Int) : Option (Bool) :=
 if p4 < 8 then (need (-9223372036854775808 ≤ ((placeOf 9 gw gi gb b_) + p4) ∧ ((placeOf 9 gw gi gb b_) + p4) ≤ 9223372036854775807) <|
if (vget img l ((placeOf 9 gw gi gb b_) + p4)) = 0 then (need (-9223372036854775808 ≤ (p4 + 1) ∧ (p4 + 1) ≤ 9223372036854775807) <|
k5 (p4 + 1)) else (some false)) else (some true)
def bbare_M (img : List Int) (l : List (Int × Int)) (gw : Int) (gi : Int) (gb : Int) (b_ : Int) : Option (Bool) :=
 iter (fun k_ s_ => bbare_B0 img l gw gi gb b_ k_ s_) FUEL 0
theorem bbare_walk {img : List Int} {l : List (Int × Int)} {gw : Int} {gi : Int} {gb : Int} {n_ : Int} {b_ : Int} {mb vb : Nat} {r : Bool} (B : Nat) (w : World) (hmb : w.heap[mb]? = some (.cells [(zp vb), (zi gw), (zi gi), (zi gb), (zi n_)].toArray 164 (0, 0))) (hv : ViewAt (ptr vb) img l w) (hm : bbare_M img l gw gi gb b_ = some r) : Spec Tryz.prog 94 #[(zp mb), (zi b_)] B w [] (fun v H' => v = (.bool r) ∧ H' = []) := by
 refine spec_Q Tryz.func94 rfl fun hs => ?_
 unfold bbare_M at hm
 refine W.sr fun K1 hK1 => ?_
 refine zE 1 (hK1 _ _ ?_)
 refine W.seq fun K2 hK2 => ?_
 refine W.sr fun K3 hK3 => ?_
 refine zE 1 (hK3 _ _ ?_)
 refine W.block ?_
 refine W.loop_iter (G := Int) (σ := Int) (fun | p4 => p4) (fun | p4, s_, w_ => (∃ us, s_ = slots 24 [(0, (zp mb)), (1, (zi b_)), (6, (zi p4))] us) ∧ St B w [] w_ []) 0 ⟨slots_intro _ (by kernel_rfl), hs⟩ hm ?_
 rintro k5 ih6 p4 _ w7 ⟨⟨us, rfl⟩, hs8⟩ hm
 replace hm : bbare_B0 img l gw gi gb b_ k5 p4 = some r := hm
 unfold bbare_B0 at hm
 refine W.sr fun K9 hK9 => ?_
 refine zE 1 (hK9 _ _ ?_)
 refine W.seq fun K10 hK10 => ?_
 refine W.cond (decide (p4 < 8)) (by kernel_rfl) (fun h11 => ?_) (fun h11 => ?_)
 ·
  obtain ⟨h11p, hm⟩ := iY hm h11
  refine W.skip ?_
  refine hK10 _ _ ?_
  refine W.seq fun K12 hK12 => ?_
  refine W.block ?_
  refine W.sr fun K13 hK13 => ?_
  refine zE 2 (hK13 _ _ ?_)
  refine W.seq fun K14 hK14 => ?_
  have hs15 := hs8.drew
  refine W.regionD [(0, 0), (1, 1), (2, 2), (4, 4), (0, 0), (16, 16), (32, 32), (64, 64), (0, 0), (384, 384), (0, 0), (1536, 1536), (2568, 2056), (4096, 4096)] (fun w_ => St B w [] w_ []) (by kernel_rfl) hs15 ?_
  refine zA (zp mb) 0 hs15 ?_
  refine zA (zp mb) 1 hs15 ?_
  refine zA (zp mb) 2 hs15 ?_
  refine zB 3 ⟨mb, 0, none⟩ (zp vb) (fun _ hS_ => (cell_of_blk (hS_.old hmb) rfl)) hs15 ?_
  refine zA (zp mb) 4 hs15 ?_
  refine zA (zp mb) 5 hs15 ?_
  refine zA (.pointer (some ⟨mb, 1, none⟩)) 6 hs15 ?_
  refine any_R 7 (by kernel_rfl) (fun _ hS_ => runs_loadAgg (ad := ⟨mb, 1, none⟩) (cs := [(zi gw), (zi gi), (zi gb)]) (by kernel_rfl) (cells_sub (hS_.old hmb) rfl)) hs15 ?_
  refine zA (zi b_) 8 hs15 ?_
  refine zA (zi p4) 10 hs15 ?_
  refine any_step 9 (by kernel_rfl) (by kernel_rfl) ?_
  refine zC00 hs15 (blockat_spec (gw := gw) (gi := gi) (gb := gb) (n_ := b_) B _) fun w16 hs18 => ?_
  refine ops_done (by kernel_rfl) ⟨hs18, ?_⟩
  obtain ⟨h19, hm⟩ := need_some hm
  refine any_val (v := .int .i64 (IntKind.i64.wrap ((placeOf 9 gw gi gb b_) + p4))) (v' := .int .i64 ((placeOf 9 gw gi gb b_) + p4)) 11 (by kernel_rfl) (fun _ => by kernel_rfl) (congrArg (Value.int .i64) (wrap_i64 h19.1 h19.2)) hs18 ?_
  refine any_step 12 (by kernel_rfl) (by kernel_rfl) ?_
  refine zC00 hs18 (get_spec (at_ := ((placeOf 9 gw gi gb b_) + p4)) (hv := (viewAt_old hs18 hv)) B _) fun w20 hs22 => ?_
  refine ops_done (by kernel_rfl) ⟨hs22, ?_⟩
  refine zA (.bool (!decide ((vget img l ((placeOf 9 gw gi gb b_) + p4)) = 0))) 13 hs22 ?_
  refine any_done (by kernel_rfl) ?_
  refine hK14 _ _ ?_
  refine W.cond (!decide ((vget img l ((placeOf 9 gw gi gb b_) + p4)) = 0)) (by kernel_rfl) (fun h23 => ?_) (fun h23 => ?_)
  rotate_left
  ·
   have h23p : (vget img l ((placeOf 9 gw gi gb b_) + p4)) = 0 := of_decide_eq_true (bnot_false h23)
   replace hm := ite_yes hm h23p
   refine W.skip ?_
   refine normal_block ?_
   refine hK12 _ _ ?_
   refine W.region ?_
   obtain ⟨h24, hm⟩ := need_some hm
   refine zI _ (wrap_i64 h24.1 h24.2) ?_
   refine zE 1 ?_
   refine loopAt_next ?_
   exact ih6 (p4 + 1) _ _ ⟨slots_intro _ (by kernel_rfl), hs22⟩ hm
  have h23p : ¬ ((vget img l ((placeOf 9 gw gi gb b_) + p4)) = 0) := of_decide_eq_false (bnot_true h23)
  replace hm := ite_no hm h23p
  refine W.sr fun K25 hK25 => ?_
  refine zE 1 (hK25 _ _ ?_)
  refine W.ret (ret_block (ret_seq (ret_seq (ret_block (ret_seq ?_)))))
  obtain rfl := some_inj hm
  refine ret_of (.bool false) (by kernel_rfl) ⟨_, ⟨rfl, rfl⟩, hs22⟩
 obtain ⟨h11p, hm⟩ := iN hm h11
 refine W.exit (exit_seq (exit_seq (exit_here ?_)))
 refine hK2 _ _ ?_
 refine W.sr fun K26 hK26 => ?_
 refine zE 1 (hK26 _ _ ?_)
 refine W.ret ?_
 obtain rfl := some_inj hm
 refine ret_of (.bool true) (by kernel_rfl) ⟨_, ⟨rfl, rfl⟩, hs8⟩
end Go.Proofs.YtmmclabkkigiaaaGreatDoor

set_option maxRecDepth 20000
set_option maxHeartbeats 4000000
namespace Go.Proofs.YtmmclabkkigiaaaGreatDoor
open Go Go.RowKit
def btake_J2 (r18 : Int × Int × List (Int × Int)) (p30 : Int) (l31 : List (Int × Int)) : Option (Int × Int × List (Int × Int)) :=
 if p30 = 0 then (some (r18.1, 0, l31)) else (some (0, p30, l31))
def btake_J1 (img : List Int) (at_ : Int) (r18 : Int × Int × List (Int × Int)) (p27 : Int) : Option (Int × Int × List (Int × Int)) :=
 if p27 = 0 then (need (0 ≤ r18.1 ∧ r18.1 ≤ 18446744073709551615) <|
(some ((vwrite img r18.2.2 at_ r18.1).1)).bind fun r49 =>
btake_J2 r18 r49 ((vwrite img r18.2.2 at_ r18.1).2)) else (btake_J2 r18 p27 r18.2.2)
def btake_M (img : List Int) (l : List (Int × Int)) (gw : Int) (gi : Int) (gb : Int) (at_ : Int) : Option (Int × Int × List (Int × Int)) :=
 need ((img.length : Int) ≤ 1000000000000) <|
if May gw gi gb ∧ wordsOf gw gi gb ≤ (img.length : Int) then ((atakeb_M img l gw gi gb (placeOf 7 gw gi gb 0)).bind fun r18 =>
if r18.2.1 = 0 then (if r18.1 = 0 then (btake_J1 img at_ r18 4) else (btake_J1 img at_ r18 r18.2.1)) else (btake_J1 img at_ r18 r18.2.1)) else (if (if May gw gi gb then (8 : Int) else 1) = 0 then (some (0, 2, l)) else ((some (if May gw gi gb then (8 : Int) else 1)).bind fun r84 =>
some (0, r84, l)))
theorem btake_walk {img : List Int} {l : List (Int × Int)} {gw : Int} {gi : Int} {gb : Int} {n_ : Int} {at_ : Int} {mb vb : Nat} {r : Int × Int × List (Int × Int)} (B : Nat) (w : World) (hG : 1 < B) (hT : CellsAt (some ⟨1, 0, none⟩) tab8 w) (hm : btake_M img l gw gi gb at_ = some r) : Spec Tryz.prog 118 #[(zp mb), (zi at_)] B w [zb mb 164 [(zp vb), (zi gw), (zi gi), (zi gb), (zi n_)], viewA (ptr vb) img l] (fun v H' => v = (.tuple #[(zi r.1), (zi r.2.1)]) ∧ H' = [zb mb 164 [(zp vb), (zi gw), (zi gi), (zi gb), (zi n_)], viewA (ptr vb) img r.2.2]) := by
 refine spec_W Tryz.func118 rfl fun l0 hs => ?_
 unfold btake_M at hm
 refine W.sr fun K1 hK1 => ?_
 refine zE 2 (hK1 _ _ ?_)
 refine W.seq fun K2 hK2 => ?_
 have hs3 := hs.drew
 refine W.regionD [(0, 0), (1, 1), (2, 2), (4, 4), (0, 0), (16, 16), (32, 32), (64, 64), (136, 136), (256, 256), (512, 512), (512, 512), (2047, 1024), (8191, 2048)] (fun w_ => St B w l0 w_ [zb mb 164 [(zp vb), (zi gw), (zi gi), (zi gb), (zi n_)], viewA (ptr vb) img l]) (by kernel_rfl) hs3 ?_
 refine zA (zp mb) 0 hs3 ?_
 refine zA (zp mb) 1 hs3 ?_
 refine zA (zp mb) 2 hs3 ?_
 refine zB 3 ⟨mb, 0, none⟩ (zp vb) (fun _ hS_ => (hS_.cellAt 0 rfl rfl)) hs3 ?_
 refine zA (zp mb) 4 hs3 ?_
 refine zA (zp mb) 5 hs3 ?_
 refine zA (.pointer (some ⟨mb, 1, none⟩)) 6 hs3 ?_
 refine any_R 7 (by kernel_rfl) (fun _ hS_ => runs_loadAgg (ad := ⟨mb, 1, none⟩) (cs := [(zi gw), (zi gi), (zi gb)]) (by kernel_rfl) (cells_sub (hS_.heapAt 0 rfl) rfl)) hs3 ?_
 refine any_step 8 (by kernel_rfl) (by kernel_rfl) ?_
 obtain ⟨h4, hm⟩ := need_some hm
 rcases Bool.eq_false_or_eq_true (decide (May gw gi gb ∧ wordsOf gw gi gb ≤ (img.length : Int))) with h5 | h5
 ·
  obtain ⟨h5p, hm⟩ := iY hm h5
  refine ops_call0 hs3 (by kernel_rfl) (anew_ok (gw := gw) (gi := gi) (gb := gb) (hv := (hs3.entAt 1 rfl viewA_at)) (hz := h4) (hP := h5p) B _) ?_
  rintro _ _ w9 ⟨b6, b7, b8, rfl, rfl⟩ hs10
  have hs11 := St.ap3 hs10
  have hs12 := St.f4 hs11
  have hs13 := St.f4 hs12
  have hs14 := St.tk2 hs13
  refine ops_done (by kernel_rfl) ⟨hs14, ?_⟩
  refine zA (.tuple #[(zp b6), (zi 0)]) 9 hs14 ?_
  refine zA (zp b6) 10 hs14 ?_
  refine zA (zi 0) 11 hs14 ?_
  refine zA (zp b6) 12 hs14 ?_
  refine zA (zi 0) 13 hs14 ?_
  refine any_done (by kernel_rfl) ?_
  refine hK2 _ _ ?_
  refine W.seq fun K15 hK15 => ?_
  refine W.sr fun K16 hK16 => ?_
  refine zE 2 (hK16 _ _ ?_)
  refine W.cond_false false (by kernel_rfl) rfl ?_
  refine W.skip ?_
  refine hK15 _ _ ?_
  refine W.sr fun K17 hK17 => ?_
  refine zR 1 ?_
  obtain ⟨r18, h19, hm⟩ := bind_some hm
  have hs20 := St.f4 hs11
  have hs21 := St.f3 hs20
  have hs22 := St.f3 hs21
  have hs23 := St.f3 hs22
  refine ops_call4 hs23 (by kernel_rfl) (atakeb_walk (ab := b6) (ib := b7) (bb := b8) (vb := vb) (img := img) (l := l) (gw := gw) (gi := gi) (gb := gb) (ia := (placeOf 6 gw gi gb 0)) (ba := (placeOf 7 gw gi gb 0)) (hG := hG) (hT := (hs11.oldCellsB hG hT)) (hm := h19) B _) ?_
  rintro _ _ w24 ⟨rfl, rfl⟩ hs25
  have hs26 := St.ap4 hs25
  refine zE 5 (hK17 _ _ ?_)
  refine W.seq_join (fun s_ w_ => ∃ (p27 : Int), (∃ us, s_ = slots 49 [(0, (zp mb)), (1, (zi at_)), (7, (zi p27)), (8, (zi r18.1))] us) ∧ St B w l0 w_ [viewA (ptr vb) img r18.2.2, zb mb 164 [(zp vb), (zi gw), (zi gi), (zi gb), (zi n_)], zb b7 213 [(zp vb), (zi (placeOf 6 gw gi gb 0)), (zi gi)], zb b8 213 [(zp vb), (zi (placeOf 7 gw gi gb 0)), (zi gb)], zb b6 208 [(zp vb), (zi gw), (zi gi), (zi gb), (zp b7), (zi gi), (zp b8), (zi gb)]] ∧ btake_J1 img at_ r18 p27 = some r) ?_ ?_
  ·
   rintro _ w28 ⟨p27, ⟨us, rfl⟩, hs29, hm⟩
   unfold btake_J1 at hm
   refine W.seq_join (fun s_ w_ => ∃ (p30 : Int) (l31 : List (Int × Int)), (∃ us, s_ = slots 49 [(7, (zi p30)), (8, (zi r18.1))] us) ∧ St B w l0 w_ [viewA (ptr vb) img l31, zb mb 164 [(zp vb), (zi gw), (zi gi), (zi gb), (zi n_)], zb b7 213 [(zp vb), (zi (placeOf 6 gw gi gb 0)), (zi gi)], zb b8 213 [(zp vb), (zi (placeOf 7 gw gi gb 0)), (zi gb)], zb b6 208 [(zp vb), (zi gw), (zi gi), (zi gb), (zp b7), (zi gi), (zp b8), (zi gb)]] ∧ btake_J2 r18 p30 l31 = some r) ?_ ?_
   ·
    rintro _ w32 ⟨p30, l31, ⟨us, rfl⟩, hs33, hm⟩
    unfold btake_J2 at hm
    refine W.seq fun K34 hK34 => ?_
    refine W.sr fun K35 hK35 => ?_
    refine zE 2 (hK35 _ _ ?_)
    refine W.cond (!decide (p30 = 0)) (by kernel_rfl) (fun h36 => ?_) (fun h36 => ?_)
    rotate_left
    ·
     have h36p : p30 = 0 := of_decide_eq_true (bnot_false h36)
     replace hm := ite_yes hm h36p
     refine W.skip ?_
     refine hK34 _ _ ?_
     refine W.sr fun K37 hK37 => ?_
     refine zE 3 (hK37 _ _ ?_)
     refine W.ret ?_
     obtain rfl := some_inj hm
     have hs38 := St.f1 hs33
     have hs39 := St.tk2 hs38
     refine ret_of (.tuple #[(zi r18.1), (zi 0)]) (by kernel_rfl) ⟨_, ⟨rfl, rfl⟩, hs39⟩
    have h36p : ¬ (p30 = 0) := of_decide_eq_false (bnot_true h36)
    replace hm := ite_no hm h36p
    refine W.sr fun K40 hK40 => ?_
    refine zE 3 (hK40 _ _ ?_)
    refine W.ret (ret_seq ?_)
    obtain rfl := some_inj hm
    have hs41 := St.f1 hs33
    have hs42 := St.tk2 hs41
    refine ret_of (.tuple #[(zi 0), (zi p30)]) (by kernel_rfl) ⟨_, ⟨rfl, rfl⟩, hs42⟩
   refine W.sr fun K43 hK43 => ?_
   refine zE 2 (hK43 _ _ ?_)
   refine W.cond (decide (p27 = 0)) (by kernel_rfl) (fun h44 => ?_) (fun h44 => ?_)
   ·
    obtain ⟨h44p, hm⟩ := iY hm h44
    refine W.region ?_
    refine zR 3 ?_
    refine zL ⟨mb, 0, none⟩ (zp vb) (hs29.cellAt 1 rfl rfl) ?_
    refine zR 2 ?_
    obtain ⟨h45, hm⟩ := need_some hm
    refine zI _ (wrap_u64 h45.1 (Int.lt_of_le_of_lt h45.2 (by decide))) ?_
    refine zC11 hs29 (sset_spec (b := vb) (img := img) (l := r18.2.2) (at_ := at_) (x_ := r18.1) B _) fun w46 hs48 => ?_
    refine zR 1 ?_
    obtain ⟨r49, h50, hm⟩ := bind_some hm
    replace h50 := some_inj h50
    refine ops_set 7 (v := .int .i64 r49) (Eq.trans (by kernel_rfl) (congrArg (Value.int .i64) h50)) ?_
    refine zD ?_
    exact ⟨r49, ((vwrite img r18.2.2 at_ r18.1).2), slots_intro _ (by kernel_rfl), hs48, hm⟩
   obtain ⟨h44p, hm⟩ := iN hm h44
   refine W.skip ?_
   exact ⟨p27, r18.2.2, slots_intro _ (by kernel_rfl), hs29, hm⟩
  refine W.sr fun K51 hK51 => ?_
  refine zR 3 ?_
  rcases Bool.eq_false_or_eq_true (decide (r18.2.1 = 0)) with h52 | h52
  ·
   obtain ⟨h52p, hm⟩ := iY hm h52
   refine zS 31 h52 ?_
   refine zS 30 h52 ?_
   refine zE 3 (hK51 _ _ ?_)
   refine W.cond (decide (r18.1 = 0)) (by kernel_rfl) (fun h53 => ?_) (fun h53 => ?_)
   ·
    obtain ⟨h53p, hm⟩ := iY hm h53
    refine W.region ?_
    refine zE 1 ?_
    have hs54 := St.f2 hs26
    have hs55 := St.f2 hs54
    have hs56 := St.f4 hs55
    have hs57 := St.f4 hs56
    exact ⟨4, slots_intro _ (by kernel_rfl), hs57, hm⟩
   obtain ⟨h53p, hm⟩ := iN hm h53
   refine W.skip ?_
   have hs58 := St.f2 hs26
   have hs59 := St.f2 hs58
   have hs60 := St.f4 hs59
   have hs61 := St.f4 hs60
   exact ⟨r18.2.1, slots_intro _ (by kernel_rfl), hs61, hm⟩
  obtain ⟨h52p, hm⟩ := iN hm h52
  refine zS 31 h52 ?_
  refine zS 30 h52 ?_
  refine zE 3 (hK51 _ _ ?_)
  refine W.cond_false false (by kernel_rfl) rfl ?_
  refine W.skip ?_
  have hs62 := St.f2 hs26
  have hs63 := St.f2 hs62
  have hs64 := St.f4 hs63
  have hs65 := St.f4 hs64
  exact ⟨r18.2.1, slots_intro _ (by kernel_rfl), hs65, hm⟩
 obtain ⟨h5p, hm⟩ := iN hm h5
 refine zC00 hs3 (anew_err (gw := gw) (gi := gi) (gb := gb) (hv := (hs3.entAt 1 rfl viewA_at)) (hz := h4) (hN := h5p) B _) fun w66 hs68 => ?_
 refine ops_done (by kernel_rfl) ⟨hs68, ?_⟩
 refine zA (.tuple #[(.pointer none), (zi (if May gw gi gb then (8 : Int) else 1))]) 9 hs68 ?_
 refine zA (.pointer none) 10 hs68 ?_
 refine zA (zi (if May gw gi gb then (8 : Int) else 1)) 11 hs68 ?_
 refine zA (.pointer none) 12 hs68 ?_
 refine zA (zi (if May gw gi gb then (8 : Int) else 1)) 13 hs68 ?_
 refine any_done (by kernel_rfl) ?_
 refine hK2 _ _ ?_
 refine W.seq fun K69 hK69 => ?_
 refine W.sr fun K70 hK70 => ?_
 refine zE 2 (hK70 _ _ ?_)
 refine W.cond (!decide ((if May gw gi gb then (8 : Int) else 1) = 0)) (by kernel_rfl) (fun h71 => ?_) (fun h71 => ?_)
 rotate_left
 ·
  have h71p : (if May gw gi gb then (8 : Int) else 1) = 0 := of_decide_eq_true (bnot_false h71)
  replace hm := ite_yes hm h71p
  refine W.skip ?_
  refine hK69 _ _ ?_
  refine W.sr fun K72 hK72 => ?_
  refine zR 1 ?_
  refine zC00 hs68 (atakeb_nil B _) fun w73 hs75 => ?_
  refine zE 5 (hK72 _ _ ?_)
  refine W.seq fun K76 hK76 => ?_
  refine W.sr fun K77 hK77 => ?_
  refine zE 6 (hK77 _ _ ?_)
  refine W.cond_false false (by kernel_rfl) rfl ?_
  refine W.skip ?_
  refine hK76 _ _ ?_
  refine W.seq fun K78 hK78 => ?_
  refine W.sr fun K79 hK79 => ?_
  refine zE 2 (hK79 _ _ ?_)
  refine W.cond_false false (by kernel_rfl) rfl ?_
  refine W.skip ?_
  refine hK78 _ _ ?_
  refine W.seq fun K80 hK80 => ?_
  refine W.sr fun K81 hK81 => ?_
  refine zE 2 (hK81 _ _ ?_)
  refine W.cond_true true (by kernel_rfl) rfl ?_
  refine W.sr fun K82 hK82 => ?_
  refine zE 3 (hK82 _ _ ?_)
  refine W.ret (ret_seq ?_)
  obtain rfl := some_inj hm
  refine ret_of (.tuple #[(zi 0), (zi 2)]) (by kernel_rfl) ⟨_, ⟨rfl, rfl⟩, hs75⟩
 have h71p : ¬ ((if May gw gi gb then (8 : Int) else 1) = 0) := of_decide_eq_false (bnot_true h71)
 replace hm := ite_no hm h71p
 refine W.sr fun K83 hK83 => ?_
 refine zR 3 ?_
 obtain ⟨r84, h85, hm⟩ := bind_some hm
 replace h85 := some_inj h85
 refine ops_set 5 (v := .int .i64 r84) (Eq.trans (by kernel_rfl) (congrArg (Value.int .i64) h85)) ?_
 refine zD (hK83 _ _ ?_)
 refine W.ret (ret_seq ?_)
 obtain rfl := some_inj hm
 refine ret_of (.tuple #[(zi 0), (zi r84)]) (by kernel_rfl) ⟨_, ⟨rfl, rfl⟩, hs68⟩
def bgive_J1 (img : List Int) (l : List (Int × Int)) (at_ : Int) (p45 : Int) : Option (Int × List (Int × Int)) :=
 if p45 = 0 then (some ((vwrite img l at_ 0).1, (vwrite img l at_ 0).2)) else (some (p45, l))
def bgive_M (img : List Int) (l : List (Int × Int)) (gw : Int) (gi : Int) (gb : Int) (at_ : Int) (b_ : Int) : Option (Int × List (Int × Int)) :=
 need ((img.length : Int) ≤ 1000000000000) <|
if May gw gi gb ∧ wordsOf gw gi gb ≤ (img.length : Int) then ((agiveb_M img l gb (placeOf 7 gw gi gb 0) b_).bind fun r17 =>
if r17.1 = 0 then ((some ((vwrite img r17.2 at_ 0).1)).bind fun r33 =>
some (r33, (vwrite img r17.2 at_ 0).2)) else (some (r17.1, r17.2))) else (if (if May gw gi gb then (8 : Int) else 1) = 0 then (bgive_J1 img l at_ 2) else (bgive_J1 img l at_ (if May gw gi gb then (8 : Int) else 1)))
theorem bgive_walk {img : List Int} {l : List (Int × Int)} {gw : Int} {gi : Int} {gb : Int} {n_ : Int} {at_ : Int} {b_ : Int} {mb vb : Nat} {r : Int × List (Int × Int)} (B : Nat) (w : World) (hm : bgive_M img l gw gi gb at_ b_ = some r) : Spec Tryz.prog 92 #[(zp mb), (zi at_), (zi b_)] B w [zb mb 164 [(zp vb), (zi gw), (zi gi), (zi gb), (zi n_)], viewA (ptr vb) img l] (fun v H' => v = (zi r.1) ∧ H' = [zb mb 164 [(zp vb), (zi gw), (zi gi), (zi gb), (zi n_)], viewA (ptr vb) img r.2]) := by
 refine spec_W Tryz.func92 rfl fun l0 hs => ?_
 unfold bgive_M at hm
 refine W.sr fun K1 hK1 => ?_
 refine zE 1 (hK1 _ _ ?_)
 refine W.seq fun K2 hK2 => ?_
 have hs3 := hs.drew
 refine W.regionD [(0, 0), (1, 1), (2, 2), (4, 4), (0, 0), (16, 16), (32, 32), (64, 64), (136, 136), (256, 256), (512, 512), (512, 512), (2047, 1024), (8191, 2048)] (fun w_ => St B w l0 w_ [zb mb 164 [(zp vb), (zi gw), (zi gi), (zi gb), (zi n_)], viewA (ptr vb) img l]) (by kernel_rfl) hs3 ?_
 refine zA (zp mb) 0 hs3 ?_
 refine zA (zp mb) 1 hs3 ?_
 refine zA (zp mb) 2 hs3 ?_
 refine zB 3 ⟨mb, 0, none⟩ (zp vb) (fun _ hS_ => (hS_.cellAt 0 rfl rfl)) hs3 ?_
 refine zA (zp mb) 4 hs3 ?_
 refine zA (zp mb) 5 hs3 ?_
 refine zA (.pointer (some ⟨mb, 1, none⟩)) 6 hs3 ?_
 refine any_R 7 (by kernel_rfl) (fun _ hS_ => runs_loadAgg (ad := ⟨mb, 1, none⟩) (cs := [(zi gw), (zi gi), (zi gb)]) (by kernel_rfl) (cells_sub (hS_.heapAt 0 rfl) rfl)) hs3 ?_
 refine any_step 8 (by kernel_rfl) (by kernel_rfl) ?_
 obtain ⟨h4, hm⟩ := need_some hm
 rcases Bool.eq_false_or_eq_true (decide (May gw gi gb ∧ wordsOf gw gi gb ≤ (img.length : Int))) with h5 | h5
 ·
  obtain ⟨h5p, hm⟩ := iY hm h5
  refine ops_call0 hs3 (by kernel_rfl) (anew_ok (gw := gw) (gi := gi) (gb := gb) (hv := (hs3.entAt 1 rfl viewA_at)) (hz := h4) (hP := h5p) B _) ?_
  rintro _ _ w9 ⟨b6, b7, b8, rfl, rfl⟩ hs10
  have hs11 := St.ap3 hs10
  have hs12 := St.f4 hs11
  have hs13 := St.f4 hs12
  have hs14 := St.tk2 hs13
  refine ops_done (by kernel_rfl) ⟨hs14, ?_⟩
  refine zA (.tuple #[(zp b6), (zi 0)]) 9 hs14 ?_
  refine zA (zp b6) 10 hs14 ?_
  refine zA (zi 0) 11 hs14 ?_
  refine zA (zp b6) 12 hs14 ?_
  refine zA (zi 0) 13 hs14 ?_
  refine any_done (by kernel_rfl) ?_
  refine hK2 _ _ ?_
  refine W.seq fun K15 hK15 => ?_
  refine W.sr fun K16 hK16 => ?_
  refine zE 2 (hK16 _ _ ?_)
  refine W.cond_true true (by kernel_rfl) rfl ?_
  refine W.region ?_
  refine zR 2 ?_
  obtain ⟨r17, h18, hm⟩ := bind_some hm
  have hs19 := St.f4 hs11
  have hs20 := St.f3 hs19
  have hs21 := St.f3 hs20
  have hs22 := St.f3 hs21
  refine ops_call4 hs22 (by kernel_rfl) (agiveb_walk (ab := b6) (ib := b7) (bb := b8) (vb := vb) (img := img) (l := l) (gw := gw) (gi := gi) (gb := gb) (ia := (placeOf 6 gw gi gb 0)) (ba := (placeOf 7 gw gi gb 0)) (n_ := b_) (hm := h18) B _) ?_
  rintro _ _ w23 ⟨rfl, rfl⟩ hs24
  have hs25 := St.ap4 hs24
  refine zE 1 (hK15 _ _ ?_)
  refine W.seq fun K26 hK26 => ?_
  refine W.sr fun K27 hK27 => ?_
  refine zE 2 (hK27 _ _ ?_)
  refine W.cond (decide (r17.1 = 0)) (by kernel_rfl) (fun h28 => ?_) (fun h28 => ?_)
  ·
   obtain ⟨h28p, hm⟩ := iY hm h28
   refine W.region ?_
   refine zR 3 ?_
   refine zL ⟨mb, 0, none⟩ (zp vb) (hs25.cellAt 4 rfl rfl) ?_
   refine zR 1 ?_
   have hs29 := St.f3 hs25
   refine zC11 hs29 (sset_spec (b := vb) (img := img) (l := r17.2) (at_ := at_) (x_ := 0) B _) fun w30 hs32 => ?_
   refine zR 1 ?_
   obtain ⟨r33, h34, hm⟩ := bind_some hm
   replace h34 := some_inj h34
   refine ops_set 8 (v := .int .i64 r33) (Eq.trans (by kernel_rfl) (congrArg (Value.int .i64) h34)) ?_
   refine zD (hK26 _ _ ?_)
   refine W.sr fun K35 hK35 => ?_
   refine zE 2 (hK35 _ _ ?_)
   refine W.ret ?_
   obtain rfl := some_inj hm
   have hs36 := St.f4 hs32
   have hs37 := St.tk2 hs36
   refine ret_of (zi r33) (by kernel_rfl) ⟨_, ⟨rfl, rfl⟩, hs37⟩
  obtain ⟨h28p, hm⟩ := iN hm h28
  refine W.skip ?_
  refine hK26 _ _ ?_
  refine W.sr fun K38 hK38 => ?_
  refine zE 2 (hK38 _ _ ?_)
  refine W.ret ?_
  obtain rfl := some_inj hm
  have hs39 := St.f3 hs25
  have hs40 := St.f4 hs39
  have hs41 := St.tk2 hs40
  refine ret_of (zi r17.1) (by kernel_rfl) ⟨_, ⟨rfl, rfl⟩, hs41⟩
 obtain ⟨h5p, hm⟩ := iN hm h5
 refine zC00 hs3 (anew_err (gw := gw) (gi := gi) (gb := gb) (hv := (hs3.entAt 1 rfl viewA_at)) (hz := h4) (hN := h5p) B _) fun w42 hs44 => ?_
 refine ops_done (by kernel_rfl) ⟨hs44, ?_⟩
 refine zA (.tuple #[(.pointer none), (zi (if May gw gi gb then (8 : Int) else 1))]) 9 hs44 ?_
 refine zA (.pointer none) 10 hs44 ?_
 refine zA (zi (if May gw gi gb then (8 : Int) else 1)) 11 hs44 ?_
 refine zA (.pointer none) 12 hs44 ?_
 refine zA (zi (if May gw gi gb then (8 : Int) else 1)) 13 hs44 ?_
 refine any_done (by kernel_rfl) ?_
 refine hK2 _ _ ?_
 refine W.seq_join (fun s_ w_ => ∃ (p45 : Int), (∃ us, s_ = slots 35 [(0, (zp mb)), (1, (zi at_)), (8, (zi p45))] us) ∧ St B w l0 w_ [viewA (ptr vb) img l, zb mb 164 [(zp vb), (zi gw), (zi gi), (zi gb), (zi n_)]] ∧ bgive_J1 img l at_ p45 = some r) ?_ ?_
 ·
  rintro _ w46 ⟨p45, ⟨us, rfl⟩, hs47, hm⟩
  unfold bgive_J1 at hm
  refine W.seq fun K48 hK48 => ?_
  refine W.sr fun K49 hK49 => ?_
  refine zE 2 (hK49 _ _ ?_)
  refine W.cond (decide (p45 = 0)) (by kernel_rfl) (fun h50 => ?_) (fun h50 => ?_)
  ·
   obtain ⟨h50p, hm⟩ := iY hm h50
   refine W.region ?_
   refine zR 3 ?_
   refine zL ⟨mb, 0, none⟩ (zp vb) (hs47.cellAt 1 rfl rfl) ?_
   refine zR 1 ?_
   refine zC11 hs47 (sset_spec (b := vb) (img := img) (l := l) (at_ := at_) (x_ := 0) B _) fun w51 hs53 => ?_
   refine zE 1 (hK48 _ _ ?_)
   refine W.sr fun K54 hK54 => ?_
   refine zE 2 (hK54 _ _ ?_)
   refine W.ret ?_
   obtain rfl := some_inj hm
   have hs55 := St.f1 hs53
   refine ret_of (zi ((vwrite img l at_ 0).1)) (by kernel_rfl) ⟨_, ⟨rfl, rfl⟩, hs55⟩
  obtain ⟨h50p, hm⟩ := iN hm h50
  refine W.skip ?_
  refine hK48 _ _ ?_
  refine W.sr fun K56 hK56 => ?_
  refine zE 2 (hK56 _ _ ?_)
  refine W.ret ?_
  obtain rfl := some_inj hm
  have hs57 := St.f1 hs47
  refine ret_of (zi p45) (by kernel_rfl) ⟨_, ⟨rfl, rfl⟩, hs57⟩
 refine W.sr fun K58 hK58 => ?_
 refine zE 2 (hK58 _ _ ?_)
 refine W.cond (decide ((if May gw gi gb then (8 : Int) else 1) = 0)) (by kernel_rfl) (fun h59 => ?_) (fun h59 => ?_)
 ·
  obtain ⟨h59p, hm⟩ := iY hm h59
  refine W.region ?_
  refine zR 2 ?_
  refine zC00 hs44 (agiveb_nil (n_ := b_) B _) fun w60 hs62 => ?_
  refine zE 1 ?_
  have hs63 := St.f1 hs62
  exact ⟨2, slots_intro _ (by kernel_rfl), hs63, hm⟩
 obtain ⟨h59p, hm⟩ := iN hm h59
 refine W.skip ?_
 have hs64 := St.f1 hs44
 exact ⟨(if May gw gi gb then (8 : Int) else 1), slots_intro _ (by kernel_rfl), hs64, hm⟩
end Go.Proofs.YtmmclabkkigiaaaGreatDoor

set_option maxRecDepth 20000
set_option maxHeartbeats 4000000
namespace Go.Proofs.YtmmclabkkigiaaaGreatDoor
open Go Go.RowKit
def bTake_J2 (img : List Int) (gw : Int) (gi : Int) (gb : Int) (l55 : List (Int × Int)) (p56 : Int) : Option (Int × Int × List (Int × Int)) :=
 (btake_M img l55 gw gi gb p56).bind fun r60 =>
some (r60.1, r60.2.1, r60.2.2)
def bTake_J3 (img : List Int) (gw : Int) (gi : Int) (gb : Int) (l131 : List (Int × Int)) (p132 : Int) : Option (Int × Int × List (Int × Int)) :=
 (btake_M img l131 gw gi gb p132).bind fun r136 =>
some (r136.1, r136.2.1, r136.2.2)
def bTake_J1 (img : List Int) (l : List (Int × Int)) (gw : Int) (gi : Int) (gb : Int) (n_ : Int) (k_ : Int) (r3 : Int × Int) (p9 : Bool) : Option (Int × Int × List (Int × Int)) :=
 if p9 = true then (some (r3.1, r3.2, l)) else (need ((img.length : Int) ≤ 1000000000000) <|
if May gw gi gb ∧ wordsOf gw gi gb ≤ (img.length : Int) then ((afree_M img l gi gb (placeOf 6 gw gi gb 0) (placeOf 7 gw gi gb 0)).bind fun r33 =>
(bneed_M img l gw gi gb n_ k_).bind fun r39 =>
if r33.2 < r39 then (some (0, 7, l)) else ((bword_M img l gw gi gb n_ k_).bind fun r50 =>
if r50.2 = true then (bTake_J2 img gw gi gb l r50.1) else ((bown_M gw gi gb n_ 8).bind fun r77 =>
(btake_M img l gw gi gb r77).bind fun r82 =>
if r82.2.1 = 0 then ((bword_M img r82.2.2 gw gi gb n_ k_).bind fun r91 =>
bTake_J2 img gw gi gb r82.2.2 r91.1) else (some (0, r82.2.1, r82.2.2))))) else (if (if May gw gi gb then (8 : Int) else 1) = 0 then ((bneed_M img l gw gi gb n_ k_).bind fun r117 =>
if 0 < r117 then (some (0, 7, l)) else ((bword_M img l gw gi gb n_ k_).bind fun r126 =>
if r126.2 = true then (bTake_J3 img gw gi gb l r126.1) else ((bown_M gw gi gb n_ 8).bind fun r146 =>
(btake_M img l gw gi gb r146).bind fun r151 =>
if r151.2.1 = 0 then ((bword_M img r151.2.2 gw gi gb n_ k_).bind fun r159 =>
bTake_J3 img gw gi gb r151.2.2 r159.1) else (some (0, r151.2.1, r151.2.2))))) else ((some (if May gw gi gb then (8 : Int) else 1)).bind fun r167 =>
some (0, r167, l))))
def bTake_M (img : List Int) (l : List (Int × Int)) (gw : Int) (gi : Int) (gb : Int) (n_ : Int) (k_ : Int) : Option (Int × Int × List (Int × Int)) :=
 (bat_M img l gw gi gb n_ k_).bind fun r3 =>
if r3.2 = 0 then (bTake_J1 img l gw gi gb n_ k_ r3 (!decide (r3.1 = 0))) else (bTake_J1 img l gw gi gb n_ k_ r3 true)
theorem bTake_walk {img : List Int} {l : List (Int × Int)} {gw : Int} {gi : Int} {gb : Int} {n_ : Int} {k_ : Int} {mb vb : Nat} {r : Int × Int × List (Int × Int)} (B : Nat) (w : World) (hG : 1 < B) (hT : CellsAt (some ⟨1, 0, none⟩) tab8 w) (hm : bTake_M img l gw gi gb n_ k_ = some r) : Spec Tryz.prog 87 #[(zp mb), (zi k_)] B w [zb mb 164 [(zp vb), (zi gw), (zi gi), (zi gb), (zi n_)], viewA (ptr vb) img l] (fun v H' => v = (.tuple #[(zi r.1), (zi r.2.1)]) ∧ H' = [zb mb 164 [(zp vb), (zi gw), (zi gi), (zi gb), (zi n_)], viewA (ptr vb) img r.2.2]) := by
 refine spec_W Tryz.func87 rfl fun l0 hs => ?_
 unfold bTake_M at hm
 refine W.sr fun K1 hK1 => ?_
 refine zE 2 (hK1 _ _ ?_)
 refine W.sr fun K2 hK2 => ?_
 refine zR 2 ?_
 obtain ⟨r3, h4, hm⟩ := bind_some hm
 refine zC00 hs (bat_walk (k_ := k_) (img := img) (l := l) (gw := gw) (gi := gi) (gb := gb) (n_ := n_) (hmb := (hs.heapAt 0 rfl)) (hv := (hs.entAt 1 rfl viewA_at)) (hm := h4) B _) fun w5 hs7 => ?_
 refine zE 5 (hK2 _ _ ?_)
 refine W.seq fun K8 hK8 => ?_
 refine W.seq_join (fun s_ w_ => ∃ (p9 : Bool), (∃ us, s_ = slots 83 [(0, (zp mb)), (1, (zi k_)), (6, (zi r3.1)), (7, (zi r3.2)), (26, (.bool p9))] us) ∧ St B w l0 w_ [viewA (ptr vb) img l, zb mb 164 [(zp vb), (zi gw), (zi gi), (zi gb), (zi n_)]] ∧ bTake_J1 img l gw gi gb n_ k_ r3 p9 = some r) ?_ ?_
 ·
  rintro _ w10 ⟨p9, ⟨us, rfl⟩, hs11, hm⟩
  unfold bTake_J1 at hm
  refine W.cond p9 (by kernel_rfl) (fun h12 => ?_) (fun h12 => ?_)
  ·
   have h12p : p9 = true := h12
   replace hm := ite_yes hm h12p
   refine W.sr fun K13 hK13 => ?_
   refine zE 4 (hK13 _ _ ?_)
   refine W.ret (ret_seq ?_)
   obtain rfl := some_inj hm
   have hs14 := St.f1 hs11
   refine ret_of (.tuple #[(zi r3.1), (zi r3.2)]) (by kernel_rfl) ⟨_, ⟨rfl, rfl⟩, hs14⟩
  have h12p : ¬ (p9 = true) := ne_true_of_eq_false h12
  replace hm := ite_no hm h12p
  refine W.skip ?_
  refine hK8 _ _ ?_
  refine W.seq fun K16 hK16 => ?_
  have hs17 := hs11.drew
  refine W.regionD [(0, 0), (1, 1), (2, 2), (4, 4), (0, 0), (16, 16), (32, 32), (64, 64), (136, 136), (256, 256), (512, 512), (512, 512), (2047, 1024), (8191, 2048)] (fun w_ => St B w l0 w_ [viewA (ptr vb) img l, zb mb 164 [(zp vb), (zi gw), (zi gi), (zi gb), (zi n_)]]) (by kernel_rfl) hs17 ?_
  refine zA (zp mb) 0 hs17 ?_
  refine zA (zp mb) 1 hs17 ?_
  refine zA (zp mb) 2 hs17 ?_
  refine zB 3 ⟨mb, 0, none⟩ (zp vb) (fun _ hS_ => (hS_.cellAt 1 rfl rfl)) hs17 ?_
  refine zA (zp mb) 4 hs17 ?_
  refine zA (zp mb) 5 hs17 ?_
  refine zA (.pointer (some ⟨mb, 1, none⟩)) 6 hs17 ?_
  refine any_R 7 (by kernel_rfl) (fun _ hS_ => runs_loadAgg (ad := ⟨mb, 1, none⟩) (cs := [(zi gw), (zi gi), (zi gb)]) (by kernel_rfl) (cells_sub (hS_.heapAt 1 rfl) rfl)) hs17 ?_
  refine any_step 8 (by kernel_rfl) (by kernel_rfl) ?_
  obtain ⟨h18, hm⟩ := need_some hm
  rcases Bool.eq_false_or_eq_true (decide (May gw gi gb ∧ wordsOf gw gi gb ≤ (img.length : Int))) with h19 | h19
  ·
   obtain ⟨h19p, hm⟩ := iY hm h19
   refine ops_call0 hs17 (by kernel_rfl) (anew_ok (gw := gw) (gi := gi) (gb := gb) (hv := (hs17.entAt 0 rfl viewA_at)) (hz := h18) (hP := h19p) B _) ?_
   rintro _ _ w23 ⟨b20, b21, b22, rfl, rfl⟩ hs24
   have hs25 := St.ap3 hs24
   have hs26 := St.f4 hs25
   have hs27 := St.f4 hs26
   have hs28 := St.tk2 hs27
   refine ops_done (by kernel_rfl) ⟨hs28, ?_⟩
   refine zA (.tuple #[(zp b20), (zi 0)]) 9 hs28 ?_
   refine zA (zp b20) 10 hs28 ?_
   refine zA (zi 0) 11 hs28 ?_
   refine zA (zp b20) 12 hs28 ?_
   refine zA (zi 0) 13 hs28 ?_
   refine any_done (by kernel_rfl) ?_
   refine hK16 _ _ ?_
   refine W.seq fun K29 hK29 => ?_
   refine W.sr fun K30 hK30 => ?_
   refine zE 2 (hK30 _ _ ?_)
   refine W.cond_false false (by kernel_rfl) rfl ?_
   refine W.skip ?_
   refine hK29 _ _ ?_
   refine W.seq fun K31 hK31 => ?_
   refine W.sr fun K32 hK32 => ?_
   refine zR 1 ?_
   obtain ⟨r33, h34, hm⟩ := bind_some hm
   refine zC00 hs25 (afree_walk (hab := (hs25.heapAt 0 rfl)) (hib := (hs25.heapAt 1 rfl)) (hbb := (hs25.heapAt 2 rfl)) (hv := (hs25.entAt 3 rfl viewA_at)) (hm := h34) B _) fun w35 hs37 => ?_
   refine zE 5 (hK32 _ _ ?_)
   refine W.sr fun K38 hK38 => ?_
   refine zR 3 ?_
   obtain ⟨r39, h40, hm⟩ := bind_some hm
   refine zC00 hs37 (bneed_walk (k_ := k_) (img := img) (l := l) (gw := gw) (gi := gi) (gb := gb) (n_ := n_) (hmb := (hs37.heapAt 4 rfl)) (hv := (hs37.entAt 3 rfl viewA_at)) (hm := h40) B _) fun w41 hs43 => ?_
   refine zE 1 (hK38 _ _ ?_)
   refine W.cond (decide (r33.2 < r39)) (by kernel_rfl) (fun h44 => ?_) (fun h44 => ?_)
   ·
    obtain ⟨h44p, hm⟩ := iY hm h44
    refine W.sr fun K45 hK45 => ?_
    refine zE 2 (hK45 _ _ ?_)
    refine W.ret (ret_seq ?_)
    obtain rfl := some_inj hm
    have hs46 := St.f3 hs43
    have hs47 := St.f4 hs46
    have hs48 := St.tk2 hs47
    refine ret_of (.tuple #[(zi 0), (zi 7)]) (by kernel_rfl) ⟨_, ⟨rfl, rfl⟩, hs48⟩
   obtain ⟨h44p, hm⟩ := iN hm h44
   refine W.skip ?_
   refine hK31 _ _ ?_
   refine W.sr fun K49 hK49 => ?_
   refine zR 2 ?_
   obtain ⟨r50, h51, hm⟩ := bind_some hm
   refine zC00 hs43 (bword_walk (k_ := k_) (img := img) (l := l) (gw := gw) (gi := gi) (gb := gb) (n_ := n_) (hmb := (hs43.heapAt 4 rfl)) (hv := (hs43.entAt 3 rfl viewA_at)) (hm := h51) B _) fun w52 hs54 => ?_
   refine zE 5 (hK49 _ _ ?_)
   refine W.seq_join (fun s_ w_ => ∃ (l55 : List (Int × Int)) (p56 : Int), (∃ us, s_ = slots 83 [(0, (zp mb)), (11, (zi p56))] us) ∧ St B w l0 w_ [viewA (ptr vb) img l55, zb mb 164 [(zp vb), (zi gw), (zi gi), (zi gb), (zi n_)], zb b21 213 [(zp vb), (zi (placeOf 6 gw gi gb 0)), (zi gi)], zb b22 213 [(zp vb), (zi (placeOf 7 gw gi gb 0)), (zi gb)], zb b20 208 [(zp vb), (zi gw), (zi gi), (zi gb), (zp b21), (zi gi), (zp b22), (zi gb)]] ∧ bTake_J2 img gw gi gb l55 p56 = some r) ?_ ?_
   ·
    rintro _ w57 ⟨l55, p56, ⟨us, rfl⟩, hs58, hm⟩
    unfold bTake_J2 at hm
    refine W.sr fun K59 hK59 => ?_
    refine zR 2 ?_
    obtain ⟨r60, h61, hm⟩ := bind_some hm
    have hs62 := St.f1 hs58
    refine zC22 hs62 (btake_walk (mb := mb) (vb := vb) (at_ := p56) (img := img) (l := l55) (gw := gw) (gi := gi) (gb := gb) (n_ := n_) (hG := hG) (hT := (hs58.oldCellsB hG hT)) (hm := h61) B _) fun w63 hs65 => ?_
    refine zE 4 (hK59 _ _ ?_)
    refine W.ret ?_
    obtain rfl := some_inj hm
    have hs66 := St.f1 hs65
    have hs67 := St.f1 hs66
    have hs68 := St.tk2 hs67
    refine ret_of (.tuple #[(zi r60.1), (zi r60.2.1)]) (by kernel_rfl) ⟨_, ⟨rfl, rfl⟩, hs68⟩
   refine W.sr fun K69 hK69 => ?_
   refine zE 2 (hK69 _ _ ?_)
   refine W.cond (!r50.2) (by kernel_rfl) (fun h70 => ?_) (fun h70 => ?_)
   rotate_left
   ·
    have h70p : r50.2 = true := (bnot_false h70)
    replace hm := ite_yes hm h70p
    refine W.skip ?_
    have hs71 := St.f2 hs54
    have hs72 := St.f2 hs71
    have hs73 := St.f4 hs72
    have hs74 := St.f4 hs73
    exact ⟨l, r50.1, slots_intro _ (by kernel_rfl), hs74, hm⟩
   have h70p : ¬ (r50.2 = true) := ne_true_of_eq_false (bnot_true h70)
   replace hm := ite_no hm h70p
   refine W.seq fun K75 hK75 => ?_
   refine W.sr fun K76 hK76 => ?_
   refine zR 2 ?_
   obtain ⟨r77, h78, hm⟩ := bind_some hm
   refine zC00 hs54 (bown_walk (w_ := 8) (img := img) (l := l) (gw := gw) (gi := gi) (gb := gb) (n_ := n_) (hmb := (hs54.heapAt 4 rfl)) (hv := (hs54.entAt 3 rfl viewA_at)) (hm := h78) B _) fun w79 hs81 => ?_
   obtain ⟨r82, h83, hm⟩ := bind_some hm
   have hs84 := St.f3 hs81
   have hs85 := St.f4 hs84
   refine zC22 hs85 (btake_walk (mb := mb) (vb := vb) (at_ := r77) (img := img) (l := l) (gw := gw) (gi := gi) (gb := gb) (n_ := n_) (hG := hG) (hT := (hs81.oldCellsB hG hT)) (hm := h83) B _) fun w86 hs88 => ?_
   refine zE 5 (hK76 _ _ ?_)
   refine W.sr fun K89 hK89 => ?_
   refine zE 2 (hK89 _ _ ?_)
   refine W.cond (!decide (r82.2.1 = 0)) (by kernel_rfl) (fun h90 => ?_) (fun h90 => ?_)
   rotate_left
   ·
    have h90p : r82.2.1 = 0 := of_decide_eq_true (bnot_false h90)
    replace hm := ite_yes hm h90p
    refine W.skip ?_
    refine hK75 _ _ ?_
    refine W.region ?_
    refine zR 2 ?_
    obtain ⟨r91, h92, hm⟩ := bind_some hm
    refine zC00 hs88 (bword_walk (k_ := k_) (img := img) (l := r82.2.2) (gw := gw) (gi := gi) (gb := gb) (n_ := n_) (hmb := (hs88.heapAt 0 rfl)) (hv := (hs88.entAt 1 rfl viewA_at)) (hm := h92) B _) fun w93 hs95 => ?_
    refine zE 4 ?_
    have hs96 := St.f2 hs95
    have hs97 := St.f4 hs96
    have hs98 := St.f4 hs97
    have hs99 := St.f3 hs98
    have hs100 := St.f4 hs99
    exact ⟨r82.2.2, r91.1, slots_intro _ (by kernel_rfl), hs100, hm⟩
   have h90p : ¬ (r82.2.1 = 0) := of_decide_eq_false (bnot_true h90)
   replace hm := ite_no hm h90p
   refine W.sr fun K101 hK101 => ?_
   refine zE 3 (hK101 _ _ ?_)
   refine W.ret (ret_seq (ret_seq ?_))
   obtain rfl := some_inj hm
   have hs102 := St.f1 hs88
   have hs103 := St.f1 hs102
   have hs104 := St.tk2 hs103
   refine ret_of (.tuple #[(zi 0), (zi r82.2.1)]) (by kernel_rfl) ⟨_, ⟨rfl, rfl⟩, hs104⟩
  obtain ⟨h19p, hm⟩ := iN hm h19
  refine zC00 hs17 (anew_err (gw := gw) (gi := gi) (gb := gb) (hv := (hs17.entAt 0 rfl viewA_at)) (hz := h18) (hN := h19p) B _) fun w105 hs107 => ?_
  refine ops_done (by kernel_rfl) ⟨hs107, ?_⟩
  refine zA (.tuple #[(.pointer none), (zi (if May gw gi gb then (8 : Int) else 1))]) 9 hs107 ?_
  refine zA (.pointer none) 10 hs107 ?_
  refine zA (zi (if May gw gi gb then (8 : Int) else 1)) 11 hs107 ?_
  refine zA (.pointer none) 12 hs107 ?_
  refine zA (zi (if May gw gi gb then (8 : Int) else 1)) 13 hs107 ?_
  refine any_done (by kernel_rfl) ?_
  refine hK16 _ _ ?_
  refine W.seq fun K108 hK108 => ?_
  refine W.sr fun K109 hK109 => ?_
  refine zE 2 (hK109 _ _ ?_)
  refine W.cond (!decide ((if May gw gi gb then (8 : Int) else 1) = 0)) (by kernel_rfl) (fun h110 => ?_) (fun h110 => ?_)
  rotate_left
  ·
   have h110p : (if May gw gi gb then (8 : Int) else 1) = 0 := of_decide_eq_true (bnot_false h110)
   replace hm := ite_yes hm h110p
   refine W.skip ?_
   refine hK108 _ _ ?_
   refine W.seq fun K111 hK111 => ?_
   refine W.sr fun K112 hK112 => ?_
   refine zR 1 ?_
   refine zC00 hs107 (afree_nil B _) fun w113 hs115 => ?_
   refine zE 5 (hK112 _ _ ?_)
   refine W.sr fun K116 hK116 => ?_
   refine zR 3 ?_
   obtain ⟨r117, h118, hm⟩ := bind_some hm
   refine zC00 hs115 (bneed_walk (k_ := k_) (img := img) (l := l) (gw := gw) (gi := gi) (gb := gb) (n_ := n_) (hmb := (hs115.heapAt 1 rfl)) (hv := (hs115.entAt 0 rfl viewA_at)) (hm := h118) B _) fun w119 hs121 => ?_
   refine zE 1 (hK116 _ _ ?_)
   refine W.cond (decide (0 < r117)) (by kernel_rfl) (fun h122 => ?_) (fun h122 => ?_)
   ·
    obtain ⟨h122p, hm⟩ := iY hm h122
    refine W.sr fun K123 hK123 => ?_
    refine zE 2 (hK123 _ _ ?_)
    refine W.ret (ret_seq ?_)
    obtain rfl := some_inj hm
    have hs124 := St.f1 hs121
    refine ret_of (.tuple #[(zi 0), (zi 7)]) (by kernel_rfl) ⟨_, ⟨rfl, rfl⟩, hs124⟩
   obtain ⟨h122p, hm⟩ := iN hm h122
   refine W.skip ?_
   refine hK111 _ _ ?_
   refine W.sr fun K125 hK125 => ?_
   refine zR 2 ?_
   obtain ⟨r126, h127, hm⟩ := bind_some hm
   refine zC00 hs121 (bword_walk (k_ := k_) (img := img) (l := l) (gw := gw) (gi := gi) (gb := gb) (n_ := n_) (hmb := (hs121.heapAt 1 rfl)) (hv := (hs121.entAt 0 rfl viewA_at)) (hm := h127) B _) fun w128 hs130 => ?_
   refine zE 5 (hK125 _ _ ?_)
   refine W.seq_join (fun s_ w_ => ∃ (l131 : List (Int × Int)) (p132 : Int), (∃ us, s_ = slots 83 [(0, (zp mb)), (11, (zi p132))] us) ∧ St B w l0 w_ [viewA (ptr vb) img l131, zb mb 164 [(zp vb), (zi gw), (zi gi), (zi gb), (zi n_)]] ∧ bTake_J3 img gw gi gb l131 p132 = some r) ?_ ?_
   ·
    rintro _ w133 ⟨l131, p132, ⟨us, rfl⟩, hs134, hm⟩
    unfold bTake_J3 at hm
    refine W.sr fun K135 hK135 => ?_
    refine zR 2 ?_
    obtain ⟨r136, h137, hm⟩ := bind_some hm
    have hs138 := St.f1 hs134
    refine zC22 hs138 (btake_walk (mb := mb) (vb := vb) (at_ := p132) (img := img) (l := l131) (gw := gw) (gi := gi) (gb := gb) (n_ := n_) (hG := hG) (hT := (hs134.oldCellsB hG hT)) (hm := h137) B _) fun w139 hs141 => ?_
    refine zE 4 (hK135 _ _ ?_)
    refine W.ret ?_
    obtain rfl := some_inj hm
    refine ret_of (.tuple #[(zi r136.1), (zi r136.2.1)]) (by kernel_rfl) ⟨_, ⟨rfl, rfl⟩, hs141⟩
   refine W.sr fun K142 hK142 => ?_
   refine zE 2 (hK142 _ _ ?_)
   refine W.cond (!r126.2) (by kernel_rfl) (fun h143 => ?_) (fun h143 => ?_)
   rotate_left
   ·
    have h143p : r126.2 = true := (bnot_false h143)
    replace hm := ite_yes hm h143p
    refine W.skip ?_
    exact ⟨l, r126.1, slots_intro _ (by kernel_rfl), hs130, hm⟩
   have h143p : ¬ (r126.2 = true) := ne_true_of_eq_false (bnot_true h143)
   replace hm := ite_no hm h143p
   refine W.seq fun K144 hK144 => ?_
   refine W.sr fun K145 hK145 => ?_
   refine zR 2 ?_
   obtain ⟨r146, h147, hm⟩ := bind_some hm
   refine zC00 hs130 (bown_walk (w_ := 8) (img := img) (l := l) (gw := gw) (gi := gi) (gb := gb) (n_ := n_) (hmb := (hs130.heapAt 1 rfl)) (hv := (hs130.entAt 0 rfl viewA_at)) (hm := h147) B _) fun w148 hs150 => ?_
   obtain ⟨r151, h152, hm⟩ := bind_some hm
   have hs153 := St.f1 hs150
   refine zC22 hs153 (btake_walk (mb := mb) (vb := vb) (at_ := r146) (img := img) (l := l) (gw := gw) (gi := gi) (gb := gb) (n_ := n_) (hG := hG) (hT := (hs150.oldCellsB hG hT)) (hm := h152) B _) fun w154 hs156 => ?_
   refine zE 5 (hK145 _ _ ?_)
   refine W.sr fun K157 hK157 => ?_
   refine zE 2 (hK157 _ _ ?_)
   refine W.cond (!decide (r151.2.1 = 0)) (by kernel_rfl) (fun h158 => ?_) (fun h158 => ?_)
   rotate_left
   ·
    have h158p : r151.2.1 = 0 := of_decide_eq_true (bnot_false h158)
    replace hm := ite_yes hm h158p
    refine W.skip ?_
    refine hK144 _ _ ?_
    refine W.region ?_
    refine zR 2 ?_
    obtain ⟨r159, h160, hm⟩ := bind_some hm
    refine zC00 hs156 (bword_walk (k_ := k_) (img := img) (l := r151.2.2) (gw := gw) (gi := gi) (gb := gb) (n_ := n_) (hmb := (hs156.heapAt 0 rfl)) (hv := (hs156.entAt 1 rfl viewA_at)) (hm := h160) B _) fun w161 hs163 => ?_
    refine zE 4 ?_
    have hs164 := St.f1 hs163
    exact ⟨r151.2.2, r159.1, slots_intro _ (by kernel_rfl), hs164, hm⟩
   have h158p : ¬ (r151.2.1 = 0) := of_decide_eq_false (bnot_true h158)
   replace hm := ite_no hm h158p
   refine W.sr fun K165 hK165 => ?_
   refine zE 3 (hK165 _ _ ?_)
   refine W.ret (ret_seq (ret_seq ?_))
   obtain rfl := some_inj hm
   refine ret_of (.tuple #[(zi 0), (zi r151.2.1)]) (by kernel_rfl) ⟨_, ⟨rfl, rfl⟩, hs156⟩
  have h110p : ¬ ((if May gw gi gb then (8 : Int) else 1) = 0) := of_decide_eq_false (bnot_true h110)
  replace hm := ite_no hm h110p
  refine W.sr fun K166 hK166 => ?_
  refine zR 3 ?_
  obtain ⟨r167, h168, hm⟩ := bind_some hm
  replace h168 := some_inj h168
  refine ops_set 5 (v := .int .i64 r167) (Eq.trans (by kernel_rfl) (congrArg (Value.int .i64) h168)) ?_
  refine zD (hK166 _ _ ?_)
  refine W.ret (ret_seq ?_)
  obtain rfl := some_inj hm
  have hs169 := St.f1 hs107
  refine ret_of (.tuple #[(zi 0), (zi r167)]) (by kernel_rfl) ⟨_, ⟨rfl, rfl⟩, hs169⟩
 refine W.region ?_
 refine zR 3 ?_
 rcases Bool.eq_false_or_eq_true (!decide (r3.2 = 0)) with h170 | h170
 rotate_left
 ·
  have h170p : r3.2 = 0 := of_decide_eq_true (bnot_false h170)
  replace hm := ite_yes hm h170p
  refine zS 23 h170 ?_
  refine zS 22 h170 ?_
  refine zE 3 ?_
  have hs171 := St.f1 hs7
  exact ⟨(!decide (r3.1 = 0)), slots_intro _ (by kernel_rfl), hs171, hm⟩
 have h170p : ¬ (r3.2 = 0) := of_decide_eq_false (bnot_true h170)
 replace hm := ite_no hm h170p
 refine zS 23 h170 ?_
 refine zS 22 h170 ?_
 refine zE 3 ?_
 have hs172 := St.f1 hs7
 exact ⟨true, slots_intro _ (by kernel_rfl), hs172, hm⟩
def bDrop_J1 (img : List Int) (gw : Int) (gi : Int) (gb : Int) (n_ : Int) (r21 : Int × List (Int × Int)) (r32 : Int) (p37 : Bool) : Option (Int × List (Int × Int)) :=
 if p37 = true then ((bown_M gw gi gb n_ 8).bind fun r42 =>
(bgive_M img r21.2 gw gi gb r42 r32).bind fun r47 =>
some (r47.1, r47.2)) else (some (0, r21.2))
def bDrop_M (img : List Int) (l : List (Int × Int)) (gw : Int) (gi : Int) (gb : Int) (n_ : Int) (k_ : Int) : Option (Int × List (Int × Int)) :=
 (bat_M img l gw gi gb n_ k_).bind fun r3 =>
if r3.2 = 0 then (if r3.1 = 0 then (some (r3.2, l)) else ((bword_M img l gw gi gb n_ k_).bind fun r14 =>
(bgive_M img l gw gi gb r14.1 r3.1).bind fun r21 =>
if r21.1 = 0 then ((bchain_M img r21.2 gw gi gb n_).bind fun r32 =>
if r32 = 0 then (bDrop_J1 img gw gi gb n_ r21 r32 false) else ((bbare_M img r21.2 gw gi gb r32).bind fun r57 =>
bDrop_J1 img gw gi gb n_ r21 r32 r57)) else (some (r21.1, r21.2)))) else (some (r3.2, l))
theorem bDrop_walk {img : List Int} {l : List (Int × Int)} {gw : Int} {gi : Int} {gb : Int} {n_ : Int} {k_ : Int} {mb vb : Nat} {r : Int × List (Int × Int)} (B : Nat) (w : World) (hm : bDrop_M img l gw gi gb n_ k_ = some r) : Spec Tryz.prog 60 #[(zp mb), (zi k_)] B w [zb mb 164 [(zp vb), (zi gw), (zi gi), (zi gb), (zi n_)], viewA (ptr vb) img l] (fun v H' => v = (zi r.1) ∧ H' = [zb mb 164 [(zp vb), (zi gw), (zi gi), (zi gb), (zi n_)], viewA (ptr vb) img r.2]) := by
 refine spec_W Tryz.func60 rfl fun l0 hs => ?_
 unfold bDrop_M at hm
 refine W.sr fun K1 hK1 => ?_
 refine zE 1 (hK1 _ _ ?_)
 refine W.sr fun K2 hK2 => ?_
 refine zR 2 ?_
 obtain ⟨r3, h4, hm⟩ := bind_some hm
 refine zC00 hs (bat_walk (k_ := k_) (img := img) (l := l) (gw := gw) (gi := gi) (gb := gb) (n_ := n_) (hmb := (hs.heapAt 0 rfl)) (hv := (hs.entAt 1 rfl viewA_at)) (hm := h4) B _) fun w5 hs7 => ?_
 refine zE 5 (hK2 _ _ ?_)
 refine W.seq fun K8 hK8 => ?_
 refine W.sr fun K9 hK9 => ?_
 refine zR 3 ?_
 rcases Bool.eq_false_or_eq_true (!decide (r3.2 = 0)) with h10 | h10
 rotate_left
 ·
  have h10p : r3.2 = 0 := of_decide_eq_true (bnot_false h10)
  replace hm := ite_yes hm h10p
  refine zS 19 h10 ?_
  refine zS 18 h10 ?_
  refine zE 3 (hK9 _ _ ?_)
  refine W.cond (decide (r3.1 = 0)) (by kernel_rfl) (fun h11 => ?_) (fun h11 => ?_)
  ·
   obtain ⟨h11p, hm⟩ := iY hm h11
   refine W.sr fun K12 hK12 => ?_
   refine zE 2 (hK12 _ _ ?_)
   refine W.ret (ret_seq ?_)
   obtain rfl := some_inj hm
   refine ret_of (zi r3.2) (by kernel_rfl) ⟨_, ⟨rfl, rfl⟩, hs7⟩
  obtain ⟨h11p, hm⟩ := iN hm h11
  refine W.skip ?_
  refine hK8 _ _ ?_
  refine W.sr fun K13 hK13 => ?_
  refine zR 2 ?_
  obtain ⟨r14, h15, hm⟩ := bind_some hm
  refine zC00 hs7 (bword_walk (k_ := k_) (img := img) (l := l) (gw := gw) (gi := gi) (gb := gb) (n_ := n_) (hmb := (hs7.heapAt 0 rfl)) (hv := (hs7.entAt 1 rfl viewA_at)) (hm := h15) B _) fun w16 hs18 => ?_
  refine zE 5 (hK13 _ _ ?_)
  refine W.seq fun K19 hK19 => ?_
  refine W.sr fun K20 hK20 => ?_
  refine zR 3 ?_
  obtain ⟨r21, h22, hm⟩ := bind_some hm
  have hs23 := St.f1 hs18
  have hs24 := St.f1 hs23
  refine zC22 hs24 (bgive_walk (mb := mb) (vb := vb) (at_ := r14.1) (b_ := r3.1) (img := img) (l := l) (gw := gw) (gi := gi) (gb := gb) (n_ := n_) (hm := h22) B _) fun w25 hs27 => ?_
  refine zE 1 (hK20 _ _ ?_)
  refine W.sr fun K28 hK28 => ?_
  refine zE 2 (hK28 _ _ ?_)
  refine W.cond (!decide (r21.1 = 0)) (by kernel_rfl) (fun h29 => ?_) (fun h29 => ?_)
  rotate_left
  ·
   have h29p : r21.1 = 0 := of_decide_eq_true (bnot_false h29)
   replace hm := ite_yes hm h29p
   refine W.skip ?_
   refine hK19 _ _ ?_
   refine W.seq fun K30 hK30 => ?_
   refine W.sr fun K31 hK31 => ?_
   refine zR 1 ?_
   obtain ⟨r32, h33, hm⟩ := bind_some hm
   refine zC00 hs27 (bchain_walk (img := img) (l := r21.2) (gw := gw) (gi := gi) (gb := gb) (n_ := n_) (hmb := (hs27.heapAt 0 rfl)) (hv := (hs27.entAt 1 rfl viewA_at)) (hm := h33) B _) fun w34 hs36 => ?_
   refine zE 1 (hK31 _ _ ?_)
   refine W.seq_join (fun s_ w_ => ∃ (p37 : Bool), (∃ us, s_ = slots 51 [(0, (zp mb)), (10, (zi r32)), (45, (.bool p37))] us) ∧ St B w l0 w_ [viewA (ptr vb) img r21.2, zb mb 164 [(zp vb), (zi gw), (zi gi), (zi gb), (zi n_)]] ∧ bDrop_J1 img gw gi gb n_ r21 r32 p37 = some r) ?_ ?_
   ·
    rintro _ w38 ⟨p37, ⟨us, rfl⟩, hs39, hm⟩
    unfold bDrop_J1 at hm
    refine W.cond p37 (by kernel_rfl) (fun h40 => ?_) (fun h40 => ?_)
    ·
     have h40p : p37 = true := h40
     replace hm := ite_yes hm h40p
     refine W.sr fun K41 hK41 => ?_
     refine zR 2 ?_
     obtain ⟨r42, h43, hm⟩ := bind_some hm
     refine zC00 hs39 (bown_walk (w_ := 8) (img := img) (l := r21.2) (gw := gw) (gi := gi) (gb := gb) (n_ := n_) (hmb := (hs39.heapAt 1 rfl)) (hv := (hs39.entAt 0 rfl viewA_at)) (hm := h43) B _) fun w44 hs46 => ?_
     refine zR 1 ?_
     obtain ⟨r47, h48, hm⟩ := bind_some hm
     have hs49 := St.f1 hs46
     refine zC22 hs49 (bgive_walk (mb := mb) (vb := vb) (at_ := r42) (b_ := r32) (img := img) (l := r21.2) (gw := gw) (gi := gi) (gb := gb) (n_ := n_) (hm := h48) B _) fun w50 hs52 => ?_
     refine zE 1 (hK41 _ _ ?_)
     refine W.ret (ret_seq ?_)
     obtain rfl := some_inj hm
     refine ret_of (zi r47.1) (by kernel_rfl) ⟨_, ⟨rfl, rfl⟩, hs52⟩
    have h40p : ¬ (p37 = true) := ne_true_of_eq_false h40
    replace hm := ite_no hm h40p
    refine W.skip ?_
    refine hK30 _ _ ?_
    refine W.sr fun K53 hK53 => ?_
    refine zE 1 (hK53 _ _ ?_)
    refine W.ret ?_
    obtain rfl := some_inj hm
    have hs54 := St.f1 hs39
    refine ret_of (zi 0) (by kernel_rfl) ⟨_, ⟨rfl, rfl⟩, hs54⟩
   refine W.region ?_
   refine zR 3 ?_
   rcases Bool.eq_false_or_eq_true (!decide (r32 = 0)) with h55 | h55
   rotate_left
   ·
    have h55p : r32 = 0 := of_decide_eq_true (bnot_false h55)
    replace hm := ite_yes hm h55p
    refine zS 41 h55 ?_
    refine zS 40 h55 ?_
    refine zE 4 ?_
    have hs56 := St.f1 hs36
    exact ⟨false, slots_intro _ (by kernel_rfl), hs56, hm⟩
   have h55p : ¬ (r32 = 0) := of_decide_eq_false (bnot_true h55)
   replace hm := ite_no hm h55p
   refine zS 41 h55 ?_
   refine zS 40 h55 ?_
   refine zR 2 ?_
   obtain ⟨r57, h58, hm⟩ := bind_some hm
   refine zC00 hs36 (bbare_walk (b_ := r32) (img := img) (l := r21.2) (gw := gw) (gi := gi) (gb := gb) (n_ := n_) (hmb := (hs36.heapAt 0 rfl)) (hv := (hs36.entAt 1 rfl viewA_at)) (hm := h58) B _) fun w59 hs61 => ?_
   refine zE 1 ?_
   have hs62 := St.f1 hs61
   exact ⟨r57, slots_intro _ (by kernel_rfl), hs62, hm⟩
  have h29p : ¬ (r21.1 = 0) := of_decide_eq_false (bnot_true h29)
  replace hm := ite_no hm h29p
  refine W.sr fun K63 hK63 => ?_
  refine zE 2 (hK63 _ _ ?_)
  refine W.ret (ret_seq ?_)
  obtain rfl := some_inj hm
  refine ret_of (zi r21.1) (by kernel_rfl) ⟨_, ⟨rfl, rfl⟩, hs27⟩
 have h10p : ¬ (r3.2 = 0) := of_decide_eq_false (bnot_true h10)
 replace hm := ite_no hm h10p
 refine zS 19 h10 ?_
 refine zS 18 h10 ?_
 refine zE 3 (hK9 _ _ ?_)
 refine W.cond_true true (by kernel_rfl) rfl ?_
 refine W.sr fun K64 hK64 => ?_
 refine zE 2 (hK64 _ _ ?_)
 refine W.ret (ret_seq ?_)
 obtain rfl := some_inj hm
 refine ret_of (zi r3.2) (by kernel_rfl) ⟨_, ⟨rfl, rfl⟩, hs7⟩
end Go.Proofs.YtmmclabkkigiaaaGreatDoor

namespace Go.Proofs.YtmmclabkkigiaaaGreatDoor
open Go Go.RowKit
theorem St.addTab {B : Nat} {w0 w : World} {l0 : List Nat} {R : List Asn} {g : Nat} {cs : List Value} (hs : St B w0 l0 w R) (hG : g < B) (h : CellsAt (some ⟨g, 0, none⟩) cs w) : St B w0 l0 w (lowA (some ⟨g, 0, none⟩) cs :: R) :=
  St.step0 (post := [lowA (some ⟨g, 0, none⟩) cs]) hs ⟨[], ⟨[], [], ⟨rfl, fun e => (by cases e), fun ad ha j v hj => (by cases ha; exact ⟨hG, h j v hj⟩)⟩, fun b => by simp, fun b => by simp, by simp⟩, Upd.refl w []⟩
theorem low_at {B : Nat} {w : World} {l : List Nat} {ad : Addr} {cs : List Value} (h : (lowA (some ad) cs).P B w l) : CellsAt (some ad) cs w := fun j v hj => (h.2.2 ad rfl j v hj).2
end Go.Proofs.YtmmclabkkigiaaaGreatDoor

set_option maxRecDepth 20000
set_option maxHeartbeats 8000000
namespace Go.Proofs.YtmmclabkkigiaaaGreatDoor
open Go Go.RowKit
def tadd_D27 (l : List (Int × Int)) : Option (Int × List (Int × Int)) :=
 some (16, l)
def tadd_X27 (p28 : Int) (l29 : List (Int × Int)) : Option (Int × List (Int × Int)) :=
 some (p28, l29)
def tadd_B0 (img : List Int) (gw : Int) (gi : Int) (gb : Int) (r94 : Int × Int × List (Int × Int)) (q107 : List Int) (p108 : Int) (k113 : ((List (Int × Int)) × Int) → Option (Int × List (Int × Int))) (l111 : List (Int × Int)) (p112 : Int) : Option (Int × List (Int × Int)) :=
 if p112 < p108 then (need (0 ≤ p112 ∧ p112 < (q107.length : Int)) <|
need (-9223372036854775808 ≤ ((placeOf 9 gw gi gb r94.1) + p112) ∧ ((placeOf 9 gw gi gb r94.1) + p112) ≤ 9223372036854775807) <|
if (vwrite img l111 ((placeOf 9 gw gi gb r94.1) + p112) (q107.getD p112.toNat 0)).1 = 0 then (need (-9223372036854775808 ≤ (p112 + 1) ∧ (p112 + 1) ≤ 9223372036854775807) <|
k113 ((vwrite img l111 ((placeOf 9 gw gi gb r94.1) + p112) (q107.getD p112.toNat 0)).2, (p112 + 1))) else (tadd_X27 ((vwrite img l111 ((placeOf 9 gw gi gb r94.1) + p112) (q107.getD p112.toNat 0)).1) ((vwrite img l111 ((placeOf 9 gw gi gb r94.1) + p112) (q107.getD p112.toNat 0)).2))) else (tadd_X27 0 l111)
def tadd_J4 (img : List Int) (gw : Int) (gi : Int) (gb : Int) (r94 : Int × Int × List (Int × Int)) (q107 : List Int) (p108 : Int) : Option (Int × List (Int × Int)) :=
 iter (fun k_ s_ => tadd_B0 img gw gi gb r94 q107 p108 k_ s_.1 s_.2) FUEL (r94.2.2, 0)
def tadd_R27 (img : List Int) (l : List (Int × Int)) (gw : Int) (gi : Int) (gb : Int) (n_ : Int) (xn_ : ByteArray) (xi_ : Int) (r14 : Int) (k25 : Nat) (c26 : Unit → Option (Int × List (Int × Int))) : Option (Int × List (Int × Int)) :=
 (some (((r14 : Int) + (k25 : Int)) % 12)).bind fun r79 =>
(bat_M img l gw gi gb n_ r79).bind fun r85 =>
if r85.1 = 0 then (if r85.2 = 0 then ((bTake_M img l gw gi gb n_ r79).bind fun r94 =>
if r94.2.1 = 0 then (need (0 ≤ xi_ ∧ xi_ ≤ 18446744073709551615) <|
need (0 ≤ (xn_.size : Int) ∧ (xn_.size : Int) ≤ 18446744073709551615) <|
(opack_M xn_).bind fun r202 =>
need (r202.length ≤ 1000000) <|
tadd_J4 img gw gi gb r94 ([xi_, (xn_.size : Int)] ++ r202) ((([xi_, (xn_.size : Int)] ++ r202).length) : Int)) else (tadd_X27 r94.2.1 r94.2.2)) else (c26 ())) else (c26 ())
def tadd_M (img : List Int) (l : List (Int × Int)) (gw : Int) (gi : Int) (gb : Int) (n_ : Int) (xn_ : ByteArray) (xi_ : Int) : Option (Int × List (Int × Int)) :=
 (ebegin_M xn_).bind fun r14 =>
need ((0 : Int) ≤ r14 ∧ (r14 : Int) ≤ 12) <|
rounds (fun k_ c_ s_ => tadd_R27 img l gw gi gb n_ xn_ xi_ r14 k_ c_) (fun s_ => tadd_D27 l) 12 0 ()
theorem tadd_walk {img : List Int} {l : List (Int × Int)} {gw : Int} {gi : Int} {gb : Int} {n_ : Int} {xn_ : ByteArray} {xi_ : Int} {mb vb : Nat} {r : Int × List (Int × Int)} (B : Nat) (w : World) (hG : 1 < B) (hT : CellsAt (some ⟨1, 0, none⟩) tab8 w) (hm : tadd_M img l gw gi gb n_ xn_ xi_ = some r) : Spec Tryz.prog 56 #[(.agg #[(zp vb), (zi gw), (zi gi), (zi gb), (zp mb)]), (.agg #[(.string xn_), (zi xi_)])] B w [zb mb 164 [(zp vb), (zi gw), (zi gi), (zi gb), (zi n_)], viewA (ptr vb) img l] (fun v H' => v = .int .i64 r.1 ∧ H' = [zb mb 164 [(zp vb), (zi gw), (zi gi), (zi gb), (zi n_)], viewA (ptr vb) img r.2]) := by
 refine spec_W Tryz.func56 rfl fun l0 hs => ?_
 unfold tadd_M at hm
 have hs1 := St.addTab hs hG hT
 refine W.sr fun K2 hK2 => ?_
 refine zN [(zp vb), (zi gw), (zi gi), (zi gb), (zp mb)] 97 hs1 fun b5 w3 hs4 => ?_
 refine zN [(.string xn_), (zi xi_)] 33 hs4 fun b8 w6 hs7 => ?_
 refine zN [(zi 0)] 34 hs7 fun b11 w9 hs10 => ?_
 refine zD (hK2 _ _ ?_)
 refine W.seq fun K12 hK12 => ?_
 refine W.sr fun K13 hK13 => ?_
 refine zR 1 ?_
 refine zL ⟨b8, 0, none⟩ (.string xn_) (hs10.cellAt 1 rfl rfl) ?_
 obtain ⟨r14, h15, hm⟩ := bind_some hm
 refine zC00 hs10 (ebegin_walk (tx_ := xn_) (hm := h15) B _) fun w16 hs18 => ?_
 refine ops_call0 hs18 (by kernel_rfl) (around_spec (f_ := r14) B _) ?_
 rintro _ _ w20 ⟨b19, rfl, rfl⟩ hs21
 have hs22 := St.ap1 hs21
 refine zD (hK13 _ _ ?_)
 refine W.block ?_
 obtain ⟨h23, hm⟩ := need_some hm
 refine W.norm (n := 73) (l := [(2, (zp b5)), (3, (zp b8)), (4, (zp b11)), (16, (.func (.func 83) #[] #[(zp b19)]))]) (by kernel_rfl) (fun us24 => ?_)
 have hs34 := St.f4 hs22
 have hs35 := St.f4 hs34
 have hs36 := St.f5 hs35
 have hs37 := St.f6 hs36
 have hs38 := St.f6 hs37
 have hs39 := St.f6 hs38
 have hs40 := St.f6 hs39
 have hF41 : rounds (fun k_ c_ s_ => tadd_R27 img l gw gi gb n_ xn_ xi_ r14 k_ c_) (fun s_ => tadd_D27 l) (12 - 0) 0 () = some r := by rw [Nat.sub_zero]; exact hm
 clear hm
 refine W.roundsA (G := Unit) (GZ := Int × (List (Int × Int))) (gf := 83) (lb := #[(zp b19)]) 12 (fun k_ _ => rounds (fun k_ c_ s_ => tadd_R27 img l gw gi gb n_ xn_ xi_ r14 k_ c_) (fun s_ => tadd_D27 l) (12 - k_) k_ () = some r) (fun _ => [zb b11 34 [(zi 0)], zb b8 33 [(.string xn_), (zi xi_)], viewA (ptr vb) img l, zb mb 164 [(zp vb), (zi gw), (zi gi), (zi gb), (zi n_)], zb b5 97 [(zp vb), (zi gw), (zi gi), (zi gb), (zp mb)], lowA (some ⟨1, 0, none⟩) tab8]) .ret (fun (p28, l29) => tadd_X27 p28 l29 = some r) (fun (p28, l29) => [zb b11 34 [(zi p28)], zb b8 33 [(.string xn_), (zi xi_)], viewA (ptr vb) img l29, zb mb 164 [(zp vb), (zi gw), (zi gi), (zi gb), (zi n_)], zb b5 97 [(zp vb), (zi gw), (zi gi), (zi gb), (zp mb)], lowA (some ⟨1, 0, none⟩) tab8]) [zb b19 3 [(zi r14)]] (fun k_ => #[(zi (((r14 : Int) + (k_ : Int)) % 12))]) (fun k_ l_ => slotsD 73 ((17, (zi (((r14 : Int) + (k_ : Int)) % 12))) :: [(2, (zp b5)), (3, (zp b8)), (4, (zp b11)), (16, (.func (.func 83) #[] #[(zp b19)]))]) us24 (some l_) []) () hF41 hs40 rfl (by kernel_rfl) (fun _ _ => by kernel_rfl) (fun _ => rfl) (fun a_ k_ l_ h1_ h2_ => ⟨rel_round1 (n := 73) (by decide) h1_ h2_, rfl⟩) (fun l_ => #[.func (.yield l_) #[] #[], (zp b19)]) (fun _ => rfl) (fun l_ w_ Y_ Z_ hy_ => around1_spec (f_ := r14) (yl := l_) (Y := Y_) (Z := Z_) (hf := h23) (hy := fun k_ h_ w_ => hy_ k_ h_ w_) _ w_) ?_ ?_ ?_
 rotate_left
 ·
  rintro D33 w42 _ hF44 hs43
  replace hF44 : rounds (fun k_ c_ s_ => tadd_R27 img l gw gi gb n_ xn_ xi_ r14 k_ c_) (fun s_ => tadd_D27 l) (12 - 12) 12 () = some r := hF44
  rw [rounds_end] at hF44
  have hm : tadd_D27 l = some r := hF44
  clear hF44
  unfold tadd_D27 at hm
  have hs45 : St B w l0 w42 [blk D33 (.deferred (some [])), zb b19 3 [(zi r14)], zb b11 34 [(zi 0)], zb b8 33 [(.string xn_), (zi xi_)], viewA (ptr vb) img l, zb mb 164 [(zp vb), (zi gw), (zi gi), (zi gb), (zi n_)], zb b5 97 [(zp vb), (zi gw), (zi gi), (zi gb), (zp mb)], lowA (some ⟨1, 0, none⟩) tab8] := hs43
  refine normal_block ?_
  refine hK12 _ _ ?_
  refine W.sr fun K46 hK46 => ?_
  have hs49 := St.f2 hs45
  refine zT 0 [(zi 16)] [(zi 16)] hs49 fun w47 hs50 => ?_
  refine zD (hK46 _ _ ?_)
  refine W.ret ?_
  obtain rfl := some_inj hm
  have hs51 := St.f7 hs50
  have hs52 := St.f7 hs51
  have hs53 := St.f7 hs52
  have hs54 := St.f7 hs53
  have hs55 := St.f7 hs54
  have hs56 := St.f7 hs55
  have hs57 := St.f6 hs56
  have hs58 := St.f7 hs57
  refine leave_mark (D := D33) (v := (zi 16)) hs58 (by kernel_rfl) (fun w59 hs60 => (resD_one rfl (.cell (ad := ⟨b11, 0, none⟩) (by kernel_rfl) (by kernel_rfl) (hs60.cellAt 0 rfl rfl)))) (fun w59 hs60 => ?_)
  have hs61 := St.f3 hs60
  have hs62 := St.f4 hs61
  have hs63 := St.tk2 hs62
  exact ⟨_, ⟨rfl, rfl⟩, hs63⟩
 ·
  rintro D66 w64 ⟨p28, l29⟩ hm hs65
  replace hm : tadd_X27 p28 l29 = some r := hm
  unfold tadd_X27 at hm
  have hs67 : St B w l0 w64 [blk D66 (.deferred (some [])), zb b19 3 [(zi r14)], zb b11 34 [(zi p28)], zb b8 33 [(.string xn_), (zi xi_)], viewA (ptr vb) img l29, zb mb 164 [(zp vb), (zi gw), (zi gi), (zi gb), (zi n_)], zb b5 97 [(zp vb), (zi gw), (zi gi), (zi gb), (zp mb)], lowA (some ⟨1, 0, none⟩) tab8] := hs65
  refine W.ret (ret_block (ret_seq ?_))
  obtain rfl := some_inj hm
  refine leave_mark (D := D66) (v := (zi p28)) hs67 (by kernel_rfl) (fun w68 hs69 => (resD_one rfl (.cell (ad := ⟨b11, 0, none⟩) (by kernel_rfl) (by kernel_rfl) (hs69.cellAt 1 rfl rfl)))) (fun w68 hs69 => ?_)
  have hs70 := St.f3 hs69
  have hs71 := St.f4 hs70
  have hs72 := St.tk2 hs71
  exact ⟨_, ⟨rfl, rfl⟩, hs72⟩
 rintro k25 hk73 rc31 l30 w74 _ hF78 lf75 hs76 K77 hK77
 replace hF78 : rounds (fun k_ c_ s_ => tadd_R27 img l gw gi gb n_ xn_ xi_ r14 k_ c_) (fun s_ => tadd_D27 l) (12 - k25) k25 () = some r := hF78
 rw [rounds_at hk73] at hF78
 obtain ⟨c26, hc26⟩ : ∃ c_, c_ = rounds (fun k_ c_ s_ => tadd_R27 img l gw gi gb n_ xn_ xi_ r14 k_ c_) (fun s_ => tadd_D27 l) (12 - (k25 + 1)) (k25 + 1) := ⟨_, rfl⟩
 rw [← hc26] at hF78
 have hm : tadd_R27 img l gw gi gb n_ xn_ xi_ r14 k25 c26 = some r := hF78
 clear hF78
 unfold tadd_R27 at hm
 refine W.region ?_
 refine zR 1 ?_
 obtain ⟨r79, h80, hm⟩ := bind_some hm
 replace h80 := some_inj h80
 refine ops_set 5 (v := .int .i64 r79) (Eq.trans (by kernel_rfl) (congrArg (Value.int .i64) h80)) ?_
 refine zD ?_
 refine hK77 _ _ hs76 (fun w81 hs82 => ?_)
 refine W.block ?_
 refine W.seq fun K83 hK83 => ?_
 refine W.sr fun K84 hK84 => ?_
 refine zR 1 ?_
 refine zL ⟨b5, 4, none⟩ (zp mb) (hs82.cellAt 5 rfl rfl) ?_
 refine zR 1 ?_
 obtain ⟨r85, h86, hm⟩ := bind_some hm
 refine zC00 hs82 (bat_walk (k_ := r79) (img := img) (l := l) (gw := gw) (gi := gi) (gb := gb) (n_ := n_) (hmb := (hs82.heapAt 4 rfl)) (hv := (hs82.entAt 3 rfl viewA_at)) (hm := h86) B _) fun w87 hs89 => ?_
 refine zE 5 (hK84 _ _ ?_)
 refine W.sr fun K90 hK90 => ?_
 refine zR 3 ?_
 rcases Bool.eq_false_or_eq_true (!decide (r85.1 = 0)) with h91 | h91
 rotate_left
 ·
  have h91p : r85.1 = 0 := of_decide_eq_true (bnot_false h91)
  replace hm := ite_yes hm h91p
  refine zS 27 h91 ?_
  refine zS 26 h91 ?_
  refine zE 3 (hK90 _ _ ?_)
  refine W.cond (!decide (r85.2 = 0)) (by kernel_rfl) (fun h92 => ?_) (fun h92 => ?_)
  rotate_left
  ·
   have h92p : r85.2 = 0 := of_decide_eq_true (bnot_false h92)
   replace hm := ite_yes hm h92p
   refine W.skip ?_
   refine hK83 _ _ ?_
   refine W.sr fun K93 hK93 => ?_
   refine zR 1 ?_
   refine zL ⟨b5, 4, none⟩ (zp mb) (hs89.cellAt 5 rfl rfl) ?_
   refine zR 1 ?_
   obtain ⟨r94, h95, hm⟩ := bind_some hm
   have hs96 := St.f3 hs89
   have hs97 := St.f4 hs96
   refine zC22 hs97 (bTake_walk (mb := mb) (vb := vb) (k_ := r79) (img := img) (l := l) (gw := gw) (gi := gi) (gb := gb) (n_ := n_) (hG := hG) (hT := (hs89.entAt 6 rfl low_at)) (hm := h95) B _) fun w98 hs100 => ?_
   refine zE 5 (hK93 _ _ ?_)
   refine W.seq fun K101 hK101 => ?_
   refine W.sr fun K102 hK102 => ?_
   refine zE 2 (hK102 _ _ ?_)
   refine W.cond (!decide (r94.2.1 = 0)) (by kernel_rfl) (fun h103 => ?_) (fun h103 => ?_)
   rotate_left
   ·
    have h103p : r94.2.1 = 0 := of_decide_eq_true (bnot_false h103)
    replace hm := ite_yes hm h103p
    refine W.skip ?_
    refine hK101 _ _ ?_
    refine W.seq fun K104 hK104 => ?_
    refine W.seq_join (fun s_ w_ => ∃ (q107 : List Int) (p108 : Int) (m105 : Option Addr) (m106 : Nat), (∃ us, s_ = slotsD 73 [(2, (zp b5)), (4, (zp b11)), (8, (zi r94.1)), (52, (.slice m105 q107.length m106)), (53, (zi p108)), (54, (zi 0))] us (some l30) []) ∧ St B w74 lf75 w_ [viewA (ptr vb) img r94.2.2, zb mb 164 [(zp vb), (zi gw), (zi gi), (zi gb), (zi n_)], zb b5 97 [(zp vb), (zi gw), (zi gi), (zi gb), (zp mb)], zb b11 34 [(zi 0)], kU64.row m105 m106 q107, blk l30 (.loop { rc31 with state := .busy }), zb b8 33 [(.string xn_), (zi xi_)], lowA (some ⟨1, 0, none⟩) tab8] ∧ tadd_J4 img gw gi gb r94 q107 p108 = some r) ?_ ?_
    ·
     rintro _ w109 ⟨q107, p108, m105, m106, ⟨us, rfl⟩, hs110, hm⟩
     unfold tadd_J4 at hm
     refine W.block ?_
     refine W.loop_iter (G := (List (Int × Int)) × Int) (σ := (List (Int × Int)) × Int) (fun | (l111, p112) => (l111, p112)) (fun | (l111, p112), s_, w_ => (∃ us, s_ = slotsD 73 [(2, (zp b5)), (4, (zp b11)), (8, (zi r94.1)), (52, (.slice m105 q107.length m106)), (53, (zi p108)), (54, (zi p112))] us (some l30) []) ∧ St B w74 lf75 w_ [viewA (ptr vb) img l111, zb mb 164 [(zp vb), (zi gw), (zi gi), (zi gb), (zi n_)], zb b5 97 [(zp vb), (zi gw), (zi gi), (zi gb), (zp mb)], zb b11 34 [(zi 0)], kU64.row m105 m106 q107, blk l30 (.loop { rc31 with state := .busy }), zb b8 33 [(.string xn_), (zi xi_)], lowA (some ⟨1, 0, none⟩) tab8]) (r94.2.2, 0) ⟨slotsD_intro _ (by kernel_rfl), hs110⟩ hm ?_
     rintro k113 ih114 ⟨l111, p112⟩ _ w115 ⟨⟨us, rfl⟩, hs116⟩ hm
     replace hm : tadd_B0 img gw gi gb r94 q107 p108 k113 l111 p112 = some r := hm
     unfold tadd_B0 at hm
     refine W.sr fun K117 hK117 => ?_
     refine zE 1 (hK117 _ _ ?_)
     refine W.seq fun K118 hK118 => ?_
     refine W.cond (decide (p112 < p108)) (by kernel_rfl) (fun h119 => ?_) (fun h119 => ?_)
     ·
      obtain ⟨h119p, hm⟩ := iY hm h119
      refine W.skip ?_
      refine hK118 _ _ ?_
      refine W.seq fun K120 hK120 => ?_
      refine W.block ?_
      refine W.sr fun K121 hK121 => ?_
      refine zR 1 ?_
      obtain ⟨h123, hm⟩ := need_some hm
      have hk122 := lt_toNat h123
      refine ops_R (runs_index (a := m105) (n := q107.length) (z := p112) (size := 1) p112.toNat (nat_of h123.1) hk122 (kU64.addr (St.kcells kU64 hs116 4 rfl) hk122) (by kernel_rfl)) ?_
      refine zL ((adr m105 (p112.toNat * 1)).add 0) (zu (q107.getD p112.toNat 0)) (kU64.at (St.kcells kU64 hs116 4 rfl) hk122 0 0 rfl) ?_
      refine zE 2 (hK121 _ _ ?_)
      refine W.seq fun K124 hK124 => ?_
      have hs125 := hs116.drew
      have hs126 := St.f7 hs125
      have hs127 := St.f7 hs126
      have hs128 := St.f7 hs127
      have hs129 := St.f7 hs128
      have hs130 := St.f7 hs129
      have hs131 := St.f7 hs130
      have hs132 := St.f7 hs131
      have hs133 := St.tk7 hs132
      refine W.regionD [(0, 0), (1, 1), (0, 0), (4, 4), (0, 0), (24, 24), (0, 0), (96, 96), (0, 0), (418, 386), (1023, 512)] (fun w_ => St B w74 lf75 w_ [zb mb 164 [(zp vb), (zi gw), (zi gi), (zi gb), (zi n_)], zb b5 97 [(zp vb), (zi gw), (zi gi), (zi gb), (zp mb)], zb b11 34 [(zi 0)], kU64.row m105 m106 q107, blk l30 (.loop { rc31 with state := .busy }), zb b8 33 [(.string xn_), (zi xi_)], lowA (some ⟨1, 0, none⟩) tab8]) (by kernel_rfl) hs133 ?_
      refine zA (zp b5) 0 hs133 ?_
      refine zB 1 ⟨b5, 0, none⟩ (zp vb) (fun _ hS_ => (hS_.cellAt 1 rfl rfl)) hs133 ?_
      refine zA (.pointer (some ⟨b5, 1, none⟩)) 2 hs133 ?_
      refine any_R 3 (by kernel_rfl) (fun _ hS_ => runs_loadAgg (ad := ⟨b5, 1, none⟩) (cs := [(zi gw), (zi gi), (zi gb)]) (by kernel_rfl) (cells_sub (hS_.heapAt 1 rfl) rfl)) hs133 ?_
      refine zA (zi r94.1) 4 hs133 ?_
      refine zA (zi p112) 6 hs133 ?_
      refine zA (zu (q107.getD p112.toNat 0)) 8 hs133 ?_
      refine any_step 5 (by kernel_rfl) (by kernel_rfl) ?_
      refine zC00 hs125 (blockat_spec (gw := gw) (gi := gi) (gb := gb) (n_ := r94.1) B _) fun w134 hs136 => ?_
      have hs137 := St.f7 hs136
      have hs138 := St.f7 hs137
      have hs139 := St.f7 hs138
      have hs140 := St.f7 hs139
      have hs141 := St.f7 hs140
      have hs142 := St.f7 hs141
      have hs143 := St.f7 hs142
      have hs144 := St.tk7 hs143
      refine ops_done (by kernel_rfl) ⟨hs144, ?_⟩
      obtain ⟨h145, hm⟩ := need_some hm
      refine any_val (v := .int .i64 (IntKind.i64.wrap ((placeOf 9 gw gi gb r94.1) + p112))) (v' := .int .i64 ((placeOf 9 gw gi gb r94.1) + p112)) 7 (by kernel_rfl) (fun _ => by kernel_rfl) (congrArg (Value.int .i64) (wrap_i64 h145.1 h145.2)) hs144 ?_
      refine any_step 9 (by kernel_rfl) (by kernel_rfl) ?_
      refine zC11 hs136 (sset_spec (b := vb) (img := img) (l := l111) (at_ := ((placeOf 9 gw gi gb r94.1) + p112)) (x_ := (q107.getD p112.toNat 0)) B _) fun w146 hs148 => ?_
      have hs149 := St.f7 hs148
      have hs150 := St.f7 hs149
      have hs151 := St.f7 hs150
      have hs152 := St.f7 hs151
      have hs153 := St.f7 hs152
      have hs154 := St.f7 hs153
      have hs155 := St.f7 hs154
      have hs156 := St.tk7 hs155
      refine ops_done (by kernel_rfl) ⟨hs156, ?_⟩
      refine zA (zi ((vwrite img l111 ((placeOf 9 gw gi gb r94.1) + p112) (q107.getD p112.toNat 0)).1)) 10 hs156 ?_
      refine any_done (by kernel_rfl) ?_
      refine hK124 _ _ ?_
      refine W.sr fun K157 hK157 => ?_
      refine zE 2 (hK157 _ _ ?_)
      refine W.cond (!decide ((vwrite img l111 ((placeOf 9 gw gi gb r94.1) + p112) (q107.getD p112.toNat 0)).1 = 0)) (by kernel_rfl) (fun h158 => ?_) (fun h158 => ?_)
      rotate_left
      ·
       have h158p : (vwrite img l111 ((placeOf 9 gw gi gb r94.1) + p112) (q107.getD p112.toNat 0)).1 = 0 := of_decide_eq_true (bnot_false h158)
       replace hm := ite_yes hm h158p
       refine W.skip ?_
       refine normal_block ?_
       refine hK120 _ _ ?_
       refine W.region ?_
       obtain ⟨h159, hm⟩ := need_some hm
       refine zI _ (wrap_i64 h159.1 h159.2) ?_
       refine zE 1 ?_
       refine loopAt_next ?_
       exact ih114 ((vwrite img l111 ((placeOf 9 gw gi gb r94.1) + p112) (q107.getD p112.toNat 0)).2, (p112 + 1)) _ _ ⟨slotsD_intro _ (by kernel_rfl), hs148⟩ hm
      have h158p : ¬ ((vwrite img l111 ((placeOf 9 gw gi gb r94.1) + p112) (q107.getD p112.toNat 0)).1 = 0) := of_decide_eq_false (bnot_true h158)
      replace hm := ite_no hm h158p
      refine W.sr fun K160 hK160 => ?_
      refine zR 1 ?_
      have hs163 := St.f3 hs148
      refine zT 0 [(zi ((vwrite img l111 ((placeOf 9 gw gi gb r94.1) + p112) (q107.getD p112.toNat 0)).1))] [(zi ((vwrite img l111 ((placeOf 9 gw gi gb r94.1) + p112) (q107.getD p112.toNat 0)).1))] hs163 fun w161 hs164 => ?_
      refine zD (hK160 _ _ ?_)
      refine W.ret (ret_block (ret_seq (ret_seq (ret_block (ret_seq (ret_block ?_))))))
      have hs165 := St.f7 hs164
      have hs166 := St.f4 hs165
      have hs167 := St.f4 hs166
      have hs168 := St.f4 hs167
      have hs169 := St.f7 hs168
      have hs170 := St.f5 hs169
      have hs171 := St.f7 hs170
      have hs172 := St.tk7 hs171
      exact ⟨rfl, (((vwrite img l111 ((placeOf 9 gw gi gb r94.1) + p112) (q107.getD p112.toNat 0)).1), ((vwrite img l111 ((placeOf 9 gw gi gb r94.1) + p112) (q107.getD p112.toNat 0)).2)), hm, hs172⟩
     obtain ⟨h119p, hm⟩ := iN hm h119
     refine W.exit (exit_seq (exit_seq (exit_here ?_)))
     refine hK104 _ _ ?_
     refine W.sr fun K173 hK173 => ?_
     have hs176 := St.f3 hs116
     refine zT 0 [(zi 0)] [(zi 0)] hs176 fun w174 hs177 => ?_
     refine zD (hK173 _ _ ?_)
     refine W.ret (ret_block ?_)
     have hs178 := St.f7 hs177
     have hs179 := St.f4 hs178
     have hs180 := St.f4 hs179
     have hs181 := St.f4 hs180
     have hs182 := St.f7 hs181
     have hs183 := St.f5 hs182
     have hs184 := St.f7 hs183
     have hs185 := St.tk7 hs184
     exact ⟨rfl, (0, l111), hm, hs185⟩
    have hs186 := hs100.drew
    refine W.regionD [(0, 0), (1, 1), (2, 2), (0, 0), (8, 8), (16, 16), (32, 32), (68, 68), (0, 0), (256, 256), (512, 512), (1152, 1152), (2048, 2048), (0, 0)] (fun w_ => St B w74 lf75 w_ [zb mb 164 [(zp vb), (zi gw), (zi gi), (zi gb), (zi n_)], viewA (ptr vb) img r94.2.2, blk l30 (.loop { rc31 with state := .busy }), zb b11 34 [(zi 0)], zb b8 33 [(.string xn_), (zi xi_)], zb b5 97 [(zp vb), (zi gw), (zi gi), (zi gb), (zp mb)], lowA (some ⟨1, 0, none⟩) tab8]) (by kernel_rfl) hs186 ?_
    refine zA (.pointer (some ⟨b8, 1, none⟩)) 0 hs186 ?_
    refine zB 1 ⟨b8, 1, none⟩ (zi xi_) (fun _ hS_ => (hS_.cellAt 4 rfl rfl)) hs186 ?_
    obtain ⟨h187, hm⟩ := need_some hm
    refine any_val (v := .int .u64 (IntKind.u64.wrap xi_)) (v' := .int .u64 xi_) 2 (by kernel_rfl) (fun _ => by kernel_rfl) (congrArg (Value.int .u64) (wrap_u64 h187.1 (Int.lt_of_le_of_lt h187.2 (by decide)))) hs186 ?_
    refine zA (zp b8) 3 hs186 ?_
    refine zB 4 ⟨b8, 0, none⟩ (.string xn_) (fun _ hS_ => (hS_.cellAt 4 rfl rfl)) hs186 ?_
    refine zA (zi (xn_.size : Int)) 5 hs186 ?_
    obtain ⟨h188, hm⟩ := need_some hm
    refine any_val (v := .int .u64 (IntKind.u64.wrap (xn_.size : Int))) (v' := .int .u64 (xn_.size : Int)) 6 (by kernel_rfl) (fun _ => by kernel_rfl) (congrArg (Value.int .u64) (wrap_u64 h188.1 (Int.lt_of_le_of_lt h188.2 (by decide)))) hs186 ?_
    refine zA (zp b8) 8 hs186 ?_
    refine zB 9 ⟨b8, 0, none⟩ (.string xn_) (fun _ hS_ => (hS_.cellAt 4 rfl rfl)) hs186 ?_
    refine zA (zi 0) 13 hs186 ?_
    refine any_step2 7 10 (by kernel_rfl) (by kernel_rfl) (by kernel_rfl) ?_ ?_
    ·
     refine ops_new (fun b => .slice (some ⟨b, 0, none⟩) 2 2) (.cells [(zu xi_), (zu (xn_.size : Int))].toArray 25 (0, 0)) hs186 (by kernel_rfl) (fun b191 w189 hs190 => ?_)
     have hs192 := St.f7 hs190
     have hs193 := St.f7 hs192
     have hs194 := St.f7 hs193
     have hs195 := St.f7 hs194
     have hs196 := St.f7 hs195
     have hs197 := St.f7 hs196
     have hs198 := St.f7 hs197
     have hs199 := St.tk7 hs198
     refine ops_done (by kernel_rfl) ⟨hs199, ?_⟩
     refine any_step 10 (by kernel_rfl) (by kernel_rfl) ?_
     obtain ⟨r202, h203, hm⟩ := bind_some hm
     refine ops_call0 hs190 (by kernel_rfl) (opack_walk (hm := h203) B _) ?_
     rintro _ _ w204 ⟨a200, c201, rfl, rfl⟩ hs205
     have hs206 := St.ap1 hs205
     have hs207 := St.f8 hs206
     have hs208 := St.f8 hs207
     have hs209 := St.f8 hs208
     have hs210 := St.f8 hs209
     have hs211 := St.f8 hs210
     have hs212 := St.f8 hs211
     have hs213 := St.f8 hs212
     have hs214 := St.tk7 hs213
     refine ops_done (by kernel_rfl) ⟨hs214, ?_⟩
     refine any_step 11 (by kernel_rfl) (by kernel_rfl) ?_
     have hs215 := St.f1 hs206
     have hs216 : St B w74 lf75 w204 [kU64.row (some ⟨b191, 0, none⟩) 2 ([xi_, (xn_.size : Int)]), kU64.row a200 c201 r202, zb mb 164 [(zp vb), (zi gw), (zi gi), (zi gb), (zi n_)], viewA (ptr vb) img r94.2.2, blk l30 (.loop { rc31 with state := .busy }), zb b11 34 [(zi 0)], zb b8 33 [(.string xn_), (zi xi_)], zb b5 97 [(zp vb), (zi gw), (zi gi), (zi gb), (zp mb)], lowA (some ⟨1, 0, none⟩) tab8] := St.kblk kU64 [xi_, (xn_.size : Int)] hs215 rfl rfl (by simp only [List.length_cons, List.length_nil]; decide)
     obtain ⟨h221, hm⟩ := need_some hm
     refine ops_appendK kU64 (bytes := 8) (a' := a200) (c' := c201) (l := [xi_, (xn_.size : Int)]) (m := r202) hs216 (by kernel_rfl) (St.capnil kU64 hs216 1 rfl) (St.kcells kU64 hs216 1 rfl) (by unfold maxLen; (try simp only [List.length_cons, List.length_nil]); omega) (by (try simp only [List.length_cons, List.length_nil]); omega) (fun a217 c218 w219 hs220 => ?_)
     have hs222 := St.f8 hs220
     have hs223 := St.f8 hs222
     have hs224 := St.f8 hs223
     have hs225 := St.f8 hs224
     have hs226 := St.f8 hs225
     have hs227 := St.f8 hs226
     have hs228 := St.f8 hs227
     have hs229 := St.tk7 hs228
     refine ops_done (by kernel_rfl) ⟨hs229, ?_⟩
     refine zA (zi ((([xi_, (xn_.size : Int)] ++ r202).length) : Int)) 12 hs229 ?_
     refine any_done (by kernel_rfl) ?_
     have hs230 := St.f8 hs220
     have hs231 := St.f7 hs230
     have hs232 := St.f6 hs231
     have hs233 := St.f3 hs232
     have hs234 := St.f7 hs233
     have hs235 := St.f8 hs234
     have hs236 := St.f7 hs235
     have hs237 := St.f8 hs236
     have hs238 := St.tk8 hs237
     exact ⟨([xi_, (xn_.size : Int)] ++ r202), ((([xi_, (xn_.size : Int)] ++ r202).length) : Int), a217, c218, slotsD_intro _ (by kernel_rfl), hs238, hm⟩
    obtain ⟨r241, h242, hm⟩ := bind_some hm
    refine ops_call0 hs186 (by kernel_rfl) (opack_walk (hm := h242) B _) ?_
    rintro _ _ w243 ⟨a239, c240, rfl, rfl⟩ hs244
    have hs245 := St.ap1 hs244
    have hs246 := St.f7 hs245
    have hs247 := St.f7 hs246
    have hs248 := St.f7 hs247
    have hs249 := St.f7 hs248
    have hs250 := St.f7 hs249
    have hs251 := St.f7 hs250
    have hs252 := St.f7 hs251
    have hs253 := St.tk7 hs252
    refine ops_done (by kernel_rfl) ⟨hs253, ?_⟩
    refine any_step 7 (by kernel_rfl) (by kernel_rfl) ?_
    refine ops_new (fun b => .slice (some ⟨b, 0, none⟩) 2 2) (.cells [(zu xi_), (zu (xn_.size : Int))].toArray 25 (0, 0)) hs245 (by kernel_rfl) (fun b256 w254 hs255 => ?_)
    have hs257 := St.f8 hs255
    have hs258 := St.f8 hs257
    have hs259 := St.f8 hs258
    have hs260 := St.f8 hs259
    have hs261 := St.f8 hs260
    have hs262 := St.f8 hs261
    have hs263 := St.f8 hs262
    have hs264 := St.tk7 hs263
    refine ops_done (by kernel_rfl) ⟨hs264, ?_⟩
    refine any_step 11 (by kernel_rfl) (by kernel_rfl) ?_
    have hs265 : St B w74 lf75 w254 [kU64.row (some ⟨b256, 0, none⟩) 2 ([xi_, (xn_.size : Int)]), kU64.row a239 c240 r241, zb mb 164 [(zp vb), (zi gw), (zi gi), (zi gb), (zi n_)], viewA (ptr vb) img r94.2.2, blk l30 (.loop { rc31 with state := .busy }), zb b11 34 [(zi 0)], zb b8 33 [(.string xn_), (zi xi_)], zb b5 97 [(zp vb), (zi gw), (zi gi), (zi gb), (zp mb)], lowA (some ⟨1, 0, none⟩) tab8] := St.kblk kU64 [xi_, (xn_.size : Int)] hs255 rfl rfl (by simp only [List.length_cons, List.length_nil]; decide)
    obtain ⟨h270, hm⟩ := need_some hm
    refine ops_appendK kU64 (bytes := 8) (a' := a239) (c' := c240) (l := [xi_, (xn_.size : Int)]) (m := r241) hs265 (by kernel_rfl) (St.capnil kU64 hs265 1 rfl) (St.kcells kU64 hs265 1 rfl) (by unfold maxLen; (try simp only [List.length_cons, List.length_nil]); omega) (by (try simp only [List.length_cons, List.length_nil]); omega) (fun a266 c267 w268 hs269 => ?_)
    have hs271 := St.f8 hs269
    have hs272 := St.f8 hs271
    have hs273 := St.f8 hs272
    have hs274 := St.f8 hs273
    have hs275 := St.f8 hs274
    have hs276 := St.f8 hs275
    have hs277 := St.f8 hs276
    have hs278 := St.tk7 hs277
    refine ops_done (by kernel_rfl) ⟨hs278, ?_⟩
    refine zA (zi ((([xi_, (xn_.size : Int)] ++ r241).length) : Int)) 12 hs278 ?_
    refine any_done (by kernel_rfl) ?_
    have hs279 := St.f8 hs269
    have hs280 := St.f7 hs279
    have hs281 := St.f6 hs280
    have hs282 := St.f3 hs281
    have hs283 := St.f7 hs282
    have hs284 := St.f8 hs283
    have hs285 := St.f7 hs284
    have hs286 := St.f8 hs285
    have hs287 := St.tk8 hs286
    exact ⟨([xi_, (xn_.size : Int)] ++ r241), ((([xi_, (xn_.size : Int)] ++ r241).length) : Int), a266, c267, slotsD_intro _ (by kernel_rfl), hs287, hm⟩
   have h103p : ¬ (r94.2.1 = 0) := of_decide_eq_false (bnot_true h103)
   replace hm := ite_no hm h103p
   refine W.sr fun K288 hK288 => ?_
   refine zR 1 ?_
   have hs291 := St.f3 hs100
   refine zT 0 [(zi r94.2.1)] [(zi r94.2.1)] hs291 fun w289 hs292 => ?_
   refine zD (hK288 _ _ ?_)
   refine W.ret (ret_seq (ret_block ?_))
   have hs293 := St.f6 hs292
   have hs294 := St.f6 hs293
   have hs295 := St.f3 hs294
   have hs296 := St.f4 hs295
   have hs297 := St.f6 hs296
   have hs298 := St.f5 hs297
   have hs299 := St.f6 hs298
   exact ⟨rfl, (r94.2.1, r94.2.2), hm, hs299⟩
  have h92p : ¬ (r85.2 = 0) := of_decide_eq_false (bnot_true h92)
  replace hm := ite_no hm h92p
  refine W.exit (exit_seq (exit_here ?_))
  rw [hc26] at hm
  exact ⟨(), hm, hs89⟩
 have h91p : ¬ (r85.1 = 0) := of_decide_eq_false (bnot_true h91)
 replace hm := ite_no hm h91p
 refine zS 27 h91 ?_
 refine zS 26 h91 ?_
 refine zE 3 (hK90 _ _ ?_)
 refine W.cond_true true (by kernel_rfl) rfl ?_
 refine W.exit (exit_seq (exit_here ?_))
 rw [hc26] at hm
 exact ⟨(), hm, hs89⟩
end Go.Proofs.YtmmclabkkigiaaaGreatDoor

set_option maxRecDepth 20000
namespace Go.Proofs.YtmmclabkkigiaaaGreatDoor
open Go Go.RowKit
def emay2_M (gi : Int) (xi_ : Int) : Option (Int) :=
 if xi_ < 1 then (if xi_ < 1 then (some 1) else (some 0)) else (if xi_ ≥ gi then (some 1) else (some 0))
theorem emay2_walk {gw : Int} {gi : Int} {gb : Int} {xn_ : ByteArray} {xi_ : Int} {vb : Nat} {r : Int} (B : Nat) (w : World) (hm : emay2_M gi xi_ = some r) : Spec Tryz.prog 55 #[(zp vb), (.agg #[(zi gw), (zi gi), (zi gb)]), (.agg #[(.string xn_), (zi xi_)])] B w [] (fun v H' => v = .int .i64 r ∧ H' = []) := by
 refine spec_Q Tryz.func55 rfl fun hs => ?_
 unfold emay2_M at hm
 refine W.sr fun K1 hK1 => ?_
 refine zN [(zi gw), (zi gi), (zi gb)] 31 hs fun b4 w2 hs3 => ?_
 refine zN [(.string xn_), (zi xi_)] 33 hs3 fun b7 w5 hs6 => ?_
 refine zE 1 (hK1 _ _ ?_)
 refine W.seq fun K8 hK8 => ?_
 refine W.block ?_
 refine W.sr fun K9 hK9 => ?_
 refine zE 3 (hK9 _ _ ?_)
 refine W.cond_false false (by kernel_rfl) rfl ?_
 refine W.seq fun K10 hK10 => ?_
 refine W.sr fun K11 hK11 => ?_
 refine zR 1 ?_
 refine zL ⟨b7, 1, none⟩ (zi xi_) (hs6.cellAt 0 rfl rfl) ?_
 refine zE 2 (hK11 _ _ ?_)
 refine W.cond (decide (xi_ < 1)) (by kernel_rfl) (fun h12 => ?_) (fun h12 => ?_)
 ·
  obtain ⟨h12p, hm⟩ := iY hm h12
  refine W.skip ?_
  refine hK10 _ _ ?_
  refine W.cond (decide (xi_ < 1)) (by kernel_rfl) (fun h13 => ?_) (fun h13 => ?_)
  ·
   obtain ⟨h13p, hm⟩ := iY hm h13
   refine W.sr fun K14 hK14 => ?_
   refine zE 1 (hK14 _ _ ?_)
   refine W.ret (ret_block (ret_seq ?_))
   obtain rfl := some_inj hm
   have hs15 := St.tk0 hs6
   refine ret_of (zi 1) (by kernel_rfl) ⟨_, ⟨rfl, rfl⟩, hs15⟩
  obtain ⟨h13p, hm⟩ := iN hm h13
  refine W.skip ?_
  refine normal_block ?_
  refine hK8 _ _ ?_
  refine W.sr fun K16 hK16 => ?_
  refine zE 1 (hK16 _ _ ?_)
  refine W.ret ?_
  obtain rfl := some_inj hm
  have hs17 := St.tk0 hs6
  refine ret_of (zi 0) (by kernel_rfl) ⟨_, ⟨rfl, rfl⟩, hs17⟩
 obtain ⟨h12p, hm⟩ := iN hm h12
 refine W.region ?_
 refine zR 1 ?_
 refine zL ⟨b7, 1, none⟩ (zi xi_) (hs6.cellAt 0 rfl rfl) ?_
 refine zR 1 ?_
 refine zL ⟨b4, 1, none⟩ (zi gi) (hs6.cellAt 1 rfl rfl) ?_
 refine zE 2 (hK10 _ _ ?_)
 refine W.cond (decide (xi_ ≥ gi)) (by kernel_rfl) (fun h18 => ?_) (fun h18 => ?_)
 ·
  obtain ⟨h18p, hm⟩ := iY hm h18
  refine W.sr fun K19 hK19 => ?_
  refine zE 1 (hK19 _ _ ?_)
  refine W.ret (ret_block (ret_seq ?_))
  obtain rfl := some_inj hm
  have hs20 := St.tk0 hs6
  refine ret_of (zi 1) (by kernel_rfl) ⟨_, ⟨rfl, rfl⟩, hs20⟩
 obtain ⟨h18p, hm⟩ := iN hm h18
 refine W.skip ?_
 refine normal_block ?_
 refine hK8 _ _ ?_
 refine W.sr fun K21 hK21 => ?_
 refine zE 1 (hK21 _ _ ?_)
 refine W.ret ?_
 obtain rfl := some_inj hm
 have hs22 := St.tk0 hs6
 refine ret_of (zi 0) (by kernel_rfl) ⟨_, ⟨rfl, rfl⟩, hs22⟩
end Go.Proofs.YtmmclabkkigiaaaGreatDoor

set_option maxRecDepth 20000
set_option maxHeartbeats 8000000
namespace Go.Proofs.YtmmclabkkigiaaaGreatDoor
open Go Go.RowKit
def eAdd_M (img : List Int) (l : List (Int × Int)) (gw : Int) (gi : Int) (gb : Int) (n_ : Int) (xn_ : ByteArray) (xi_ : Int) : Option (Int × List (Int × Int)) :=
 (emay2_M gi xi_).bind fun r10 =>
if r10 = 0 then (if (igetM img l gw gi gb n_).2 = 0 then (if (igetM img l gw gi gb n_).1.k = 2 then ((tfind_M img l gw gi gb n_ xn_).bind fun r34 =>
if r34.2.2.2 = 0 then (some (9, l)) else (if r34.2.2.2 = 6 then ((tadd_M img l gw gi gb n_ xn_ xi_).bind fun r56 =>
some (r56.1, r56.2)) else (some (r34.2.2.2, l)))) else (some (10, l))) else ((some ((igetM img l gw gi gb n_).2)).bind fun r91 =>
if r91 = 0 then (none) else (some (r91, l)))) else (some (r10, l))
theorem eAdd_walk {img : List Int} {l : List (Int × Int)} {gw : Int} {gi : Int} {gb : Int} {n_ : Int} {xn_ : ByteArray} {xi_ : Int} {vb : Nat} {r : Int × List (Int × Int)} (B : Nat) (w : World) (hG : 1 < B) (hT : CellsAt (some ⟨1, 0, none⟩) tab8 w) (hm : eAdd_M img l gw gi gb n_ xn_ xi_ = some r) : Spec Tryz.prog 19 #[(zp vb), (.agg #[(zi gw), (zi gi), (zi gb)]), (zi n_), (.agg #[(.string xn_), (zi xi_)])] B w [viewA (ptr vb) img l] (fun v H' => v = .int .i64 r.1 ∧ H' = [viewA (ptr vb) img r.2]) := by
 refine spec_W Tryz.func19 rfl fun l0 hs => ?_
 unfold eAdd_M at hm
 refine W.sr fun K1 hK1 => ?_
 refine zN [(zi gw), (zi gi), (zi gb)] 31 hs fun b4 w2 hs3 => ?_
 refine zN [(.string xn_), (zi xi_)] 33 hs3 fun b7 w5 hs6 => ?_
 refine zE 1 (hK1 _ _ ?_)
 refine W.seq fun K8 hK8 => ?_
 refine W.sr fun K9 hK9 => ?_
 refine zR 1 ?_
 refine zG ⟨b4, 0, none⟩ [(zi gw), (zi gi), (zi gb)] (cells_sub (hs6.heapAt 1 rfl) rfl) ?_
 refine zG ⟨b7, 0, none⟩ [(.string xn_), (zi xi_)] (cells_sub (hs6.heapAt 0 rfl) rfl) ?_
 obtain ⟨r10, h11, hm⟩ := bind_some hm
 refine zC00 hs6 (emay2_walk (vb := vb) (gw := gw) (gi := gi) (gb := gb) (xn_ := xn_) (xi_ := xi_) (hm := h11) B _) fun w12 hs14 => ?_
 refine zE 1 (hK9 _ _ ?_)
 refine W.sr fun K15 hK15 => ?_
 refine zE 2 (hK15 _ _ ?_)
 refine W.cond (!decide (r10 = 0)) (by kernel_rfl) (fun h16 => ?_) (fun h16 => ?_)
 rotate_left
 ·
  have h16p : r10 = 0 := of_decide_eq_true (bnot_false h16)
  replace hm := ite_yes hm h16p
  refine W.skip ?_
  refine hK8 _ _ ?_
  refine W.sr fun K18 hK18 => ?_
  refine zR 1 ?_
  refine zG ⟨b4, 0, none⟩ [(zi gw), (zi gi), (zi gb)] (cells_sub (hs14.heapAt 1 rfl) rfl) ?_
  refine zR 1 ?_
  rcases Bool.eq_false_or_eq_true (decide ((igetM img l gw gi gb n_).2 = 0)) with h19 | h19
  ·
   obtain ⟨h19p, hm⟩ := iY hm h19
   rcases Bool.eq_false_or_eq_true (decide ((igetM img l gw gi gb n_).1.k = 2)) with h20 | h20
   ·
    obtain ⟨h20p, hm⟩ := iY hm h20
    refine ops_call0 hs14 (by kernel_rfl) (eopen_ok (gw := gw) (gi := gi) (gb := gb) (n_ := n_) (hv := (hs14.entAt 2 rfl viewA_at)) (hP := h19p) (hK := h20p) B _) ?_
    rintro _ _ w22 ⟨b21, rfl, rfl⟩ hs23
    have hs24 := St.ap1 hs23
    refine zR 3 ?_
    refine zN [(.pointer none), (zi 0), (zi 0), (zi 0), (.pointer none)] 97 hs24 fun b27 w25 hs26 => ?_
    refine zT 0 [(zp vb), (zi gw), (zi gi), (zi gb), (zp b21)] [(zp vb), (zi gw), (zi gi), (zi gb), (zp b21)] hs26 fun w28 hs30 => ?_
    refine zE 1 (hK18 _ _ ?_)
    refine W.seq fun K31 hK31 => ?_
    refine W.sr fun K32 hK32 => ?_
    refine zE 2 (hK32 _ _ ?_)
    refine W.cond_false false (by kernel_rfl) rfl ?_
    refine W.skip ?_
    refine hK31 _ _ ?_
    refine W.sr fun K33 hK33 => ?_
    refine zG ⟨b27, 0, none⟩ [(zp vb), (zi gw), (zi gi), (zi gb), (zp b21)] (cells_sub (hs30.heapAt 0 rfl) rfl) ?_
    refine zR 1 ?_
    refine zL ⟨b7, 0, none⟩ (.string xn_) (hs30.cellAt 2 rfl rfl) ?_
    obtain ⟨r34, h35, hm⟩ := bind_some hm
    have hs36 := St.f4 hs30
    have hs37 := St.f2 hs36
    refine zC22 hs37 (tfind_walk (mb := b21) (vb := vb) (tx_ := xn_) (img := img) (l := l) (gw := gw) (gi := gi) (gb := gb) (n_ := n_) (hm := h35) B _) fun w38 hs40 => ?_
    refine zR 4 ?_
    refine zN [(.string ByteArray.empty), (zi 0)] 33 hs40 fun b43 w41 hs42 => ?_
    refine zT 0 [(.string r34.1), (zi r34.2.1)] [(.string r34.1), (zi r34.2.1)] hs42 fun w44 hs46 => ?_
    refine zE 2 (hK33 _ _ ?_)
    refine W.sr fun K47 hK47 => ?_
    refine zE 1 (hK47 _ _ ?_)
    refine W.block ?_
    refine W.sr fun K48 hK48 => ?_
    refine zE 2 (hK48 _ _ ?_)
    refine W.cond (decide (r34.2.2.2 = 0)) (by kernel_rfl) (fun h49 => ?_) (fun h49 => ?_)
    ·
     obtain ⟨h49p, hm⟩ := iY hm h49
     refine W.sr fun K50 hK50 => ?_
     refine zE 1 (hK50 _ _ ?_)
     refine W.ret (ret_block ?_)
     obtain rfl := some_inj hm
     have hs51 := St.f2 hs46
     have hs52 := St.tk1 hs51
     refine ret_of (zi 9) (by kernel_rfl) ⟨_, ⟨rfl, rfl⟩, hs52⟩
    obtain ⟨h49p, hm⟩ := iN hm h49
    refine W.sr fun K53 hK53 => ?_
    refine zE 2 (hK53 _ _ ?_)
    refine W.cond (decide (r34.2.2.2 = 6)) (by kernel_rfl) (fun h54 => ?_) (fun h54 => ?_)
    ·
     obtain ⟨h54p, hm⟩ := iY hm h54
     refine W.sr fun K55 hK55 => ?_
     refine zG ⟨b27, 0, none⟩ [(zp vb), (zi gw), (zi gi), (zi gb), (zp b21)] (cells_sub (hs46.heapAt 3 rfl) rfl) ?_
     refine zG ⟨b7, 0, none⟩ [(.string xn_), (zi xi_)] (cells_sub (hs46.heapAt 4 rfl) rfl) ?_
     obtain ⟨r56, h57, hm⟩ := bind_some hm
     have hs58 := St.f2 hs46
     have hs59 := St.f2 hs58
     refine zC22 hs59 (tadd_walk (mb := b21) (vb := vb) (hG := hG) (hT := (hs46.oldCellsB hG hT)) (xn_ := xn_) (xi_ := xi_) (img := img) (l := l) (gw := gw) (gi := gi) (gb := gb) (n_ := n_) (hm := h57) B _) fun w60 hs62 => ?_
     refine zE 1 (hK55 _ _ ?_)
     refine W.ret (ret_block ?_)
     obtain rfl := some_inj hm
     have hs63 := St.f1 hs62
     have hs64 := St.tk1 hs63
     refine ret_of (zi r56.1) (by kernel_rfl) ⟨_, ⟨rfl, rfl⟩, hs64⟩
    obtain ⟨h54p, hm⟩ := iN hm h54
    refine W.sr fun K65 hK65 => ?_
    refine zE 2 (hK65 _ _ ?_)
    refine W.ret (ret_block ?_)
    obtain rfl := some_inj hm
    have hs66 := St.f2 hs46
    have hs67 := St.tk1 hs66
    refine ret_of (zi r34.2.2.2) (by kernel_rfl) ⟨_, ⟨rfl, rfl⟩, hs67⟩
   obtain ⟨h20p, hm⟩ := iN hm h20
   refine zC00 hs14 (eopen_dir (gw := gw) (gi := gi) (gb := gb) (n_ := n_) (hv := (hs14.entAt 2 rfl viewA_at)) (hP := h19p) (hK := h20p) B _) fun w68 hs70 => ?_
   refine zR 3 ?_
   refine zN [(.pointer none), (zi 0), (zi 0), (zi 0), (.pointer none)] 97 hs70 fun b73 w71 hs72 => ?_
   refine zT 0 [(.pointer none), (zi 0), (zi 0), (zi 0), (.pointer none)] [(.pointer none), (zi 0), (zi 0), (zi 0), (.pointer none)] hs72 fun w74 hs76 => ?_
   refine zE 1 (hK18 _ _ ?_)
   refine W.seq fun K77 hK77 => ?_
   refine W.sr fun K78 hK78 => ?_
   refine zE 2 (hK78 _ _ ?_)
   refine W.cond_true true (by kernel_rfl) rfl ?_
   refine W.sr fun K79 hK79 => ?_
   refine zE 2 (hK79 _ _ ?_)
   refine W.ret (ret_seq ?_)
   obtain rfl := some_inj hm
   have hs80 := St.f3 hs76
   have hs81 := St.tk1 hs80
   refine ret_of (zi 10) (by kernel_rfl) ⟨_, ⟨rfl, rfl⟩, hs81⟩
  obtain ⟨h19p, hm⟩ := iN hm h19
  refine zC00 hs14 (eopen_err (gw := gw) (gi := gi) (gb := gb) (n_ := n_) (hv := (hs14.entAt 2 rfl viewA_at)) (hN := h19p) B _) fun w82 hs84 => ?_
  refine zR 3 ?_
  refine zN [(.pointer none), (zi 0), (zi 0), (zi 0), (.pointer none)] 97 hs84 fun b87 w85 hs86 => ?_
  refine zT 0 [(.pointer none), (zi 0), (zi 0), (zi 0), (.pointer none)] [(.pointer none), (zi 0), (zi 0), (zi 0), (.pointer none)] hs86 fun w88 hs90 => ?_
  refine zR 1 ?_
  obtain ⟨r91, h92, hm⟩ := bind_some hm
  replace h92 := some_inj h92
  refine ops_set 11 (v := .int .i64 r91) (Eq.trans (by kernel_rfl) (congrArg (Value.int .i64) h92)) ?_
  refine zD (hK18 _ _ ?_)
  refine W.seq fun K93 hK93 => ?_
  refine W.sr fun K94 hK94 => ?_
  refine zE 2 (hK94 _ _ ?_)
  refine W.cond (!decide (r91 = 0)) (by kernel_rfl) (fun h95 => ?_) (fun h95 => ?_)
  rotate_left
  ·
   have h95p : r91 = 0 := of_decide_eq_true (bnot_false h95)
   exact absurd h95p (fun e_ => h19p (h92.trans e_))
  have h95p : ¬ (r91 = 0) := of_decide_eq_false (bnot_true h95)
  replace hm := ite_no hm h95p
  refine W.sr fun K96 hK96 => ?_
  refine zE 2 (hK96 _ _ ?_)
  refine W.ret (ret_seq ?_)
  obtain rfl := some_inj hm
  have hs97 := St.f3 hs90
  have hs98 := St.tk1 hs97
  refine ret_of (zi r91) (by kernel_rfl) ⟨_, ⟨rfl, rfl⟩, hs98⟩
 have h16p : ¬ (r10 = 0) := of_decide_eq_false (bnot_true h16)
 replace hm := ite_no hm h16p
 refine W.sr fun K99 hK99 => ?_
 refine zE 2 (hK99 _ _ ?_)
 refine W.ret (ret_seq ?_)
 obtain rfl := some_inj hm
 have hs100 := St.f2 hs14
 have hs101 := St.tk1 hs100
 refine ret_of (zi r10) (by kernel_rfl) ⟨_, ⟨rfl, rfl⟩, hs101⟩
def eChange_M (img : List Int) (l : List (Int × Int)) (gw : Int) (gi : Int) (gb : Int) (n_ : Int) (xn_ : ByteArray) (xi_ : Int) : Option (Int × List (Int × Int)) :=
 (emay2_M gi xi_).bind fun r10 =>
if r10 = 0 then (if (igetM img l gw gi gb n_).2 = 0 then (if (igetM img l gw gi gb n_).1.k = 2 then ((tfind_M img l gw gi gb n_ xn_).bind fun r34 =>
if r34.2.2.2 = 0 then ((bat_M img l gw gi gb n_ r34.2.2.1).bind fun r51 =>
if r51.2 = 0 then (need (0 ≤ xi_ ∧ xi_ ≤ 18446744073709551615) <|
some ((vwrite img l (placeOf 9 gw gi gb r51.1) xi_).1, (vwrite img l (placeOf 9 gw gi gb r51.1) xi_).2)) else (some (r51.2, l))) else (some (r34.2.2.2, l))) else (some (10, l))) else ((some ((igetM img l gw gi gb n_).2)).bind fun r117 =>
if r117 = 0 then (none) else (some (r117, l)))) else (some (r10, l))
theorem eChange_walk {img : List Int} {l : List (Int × Int)} {gw : Int} {gi : Int} {gb : Int} {n_ : Int} {xn_ : ByteArray} {xi_ : Int} {vb : Nat} {r : Int × List (Int × Int)} (B : Nat) (w : World) (hm : eChange_M img l gw gi gb n_ xn_ xi_ = some r) : Spec Tryz.prog 20 #[(zp vb), (.agg #[(zi gw), (zi gi), (zi gb)]), (zi n_), (.agg #[(.string xn_), (zi xi_)])] B w [viewA (ptr vb) img l] (fun v H' => v = .int .i64 r.1 ∧ H' = [viewA (ptr vb) img r.2]) := by
 refine spec_W Tryz.func20 rfl fun l0 hs => ?_
 unfold eChange_M at hm
 refine W.sr fun K1 hK1 => ?_
 refine zN [(zi gw), (zi gi), (zi gb)] 31 hs fun b4 w2 hs3 => ?_
 refine zN [(.string xn_), (zi xi_)] 33 hs3 fun b7 w5 hs6 => ?_
 refine zE 1 (hK1 _ _ ?_)
 refine W.seq fun K8 hK8 => ?_
 refine W.sr fun K9 hK9 => ?_
 refine zR 1 ?_
 refine zG ⟨b4, 0, none⟩ [(zi gw), (zi gi), (zi gb)] (cells_sub (hs6.heapAt 1 rfl) rfl) ?_
 refine zG ⟨b7, 0, none⟩ [(.string xn_), (zi xi_)] (cells_sub (hs6.heapAt 0 rfl) rfl) ?_
 obtain ⟨r10, h11, hm⟩ := bind_some hm
 refine zC00 hs6 (emay2_walk (vb := vb) (gw := gw) (gi := gi) (gb := gb) (xn_ := xn_) (xi_ := xi_) (hm := h11) B _) fun w12 hs14 => ?_
 refine zE 1 (hK9 _ _ ?_)
 refine W.sr fun K15 hK15 => ?_
 refine zE 2 (hK15 _ _ ?_)
 refine W.cond (!decide (r10 = 0)) (by kernel_rfl) (fun h16 => ?_) (fun h16 => ?_)
 rotate_left
 ·
  have h16p : r10 = 0 := of_decide_eq_true (bnot_false h16)
  replace hm := ite_yes hm h16p
  refine W.skip ?_
  refine hK8 _ _ ?_
  refine W.sr fun K18 hK18 => ?_
  refine zR 1 ?_
  refine zG ⟨b4, 0, none⟩ [(zi gw), (zi gi), (zi gb)] (cells_sub (hs14.heapAt 1 rfl) rfl) ?_
  refine zR 1 ?_
  rcases Bool.eq_false_or_eq_true (decide ((igetM img l gw gi gb n_).2 = 0)) with h19 | h19
  ·
   obtain ⟨h19p, hm⟩ := iY hm h19
   rcases Bool.eq_false_or_eq_true (decide ((igetM img l gw gi gb n_).1.k = 2)) with h20 | h20
   ·
    obtain ⟨h20p, hm⟩ := iY hm h20
    refine ops_call0 hs14 (by kernel_rfl) (eopen_ok (gw := gw) (gi := gi) (gb := gb) (n_ := n_) (hv := (hs14.entAt 2 rfl viewA_at)) (hP := h19p) (hK := h20p) B _) ?_
    rintro _ _ w22 ⟨b21, rfl, rfl⟩ hs23
    have hs24 := St.ap1 hs23
    refine zR 3 ?_
    refine zN [(.pointer none), (zi 0), (zi 0), (zi 0), (.pointer none)] 97 hs24 fun b27 w25 hs26 => ?_
    refine zT 0 [(zp vb), (zi gw), (zi gi), (zi gb), (zp b21)] [(zp vb), (zi gw), (zi gi), (zi gb), (zp b21)] hs26 fun w28 hs30 => ?_
    refine zE 1 (hK18 _ _ ?_)
    refine W.seq fun K31 hK31 => ?_
    refine W.sr fun K32 hK32 => ?_
    refine zE 2 (hK32 _ _ ?_)
    refine W.cond_false false (by kernel_rfl) rfl ?_
    refine W.skip ?_
    refine hK31 _ _ ?_
    refine W.sr fun K33 hK33 => ?_
    refine zG ⟨b27, 0, none⟩ [(zp vb), (zi gw), (zi gi), (zi gb), (zp b21)] (cells_sub (hs30.heapAt 0 rfl) rfl) ?_
    refine zR 1 ?_
    refine zL ⟨b7, 0, none⟩ (.string xn_) (hs30.cellAt 2 rfl rfl) ?_
    obtain ⟨r34, h35, hm⟩ := bind_some hm
    have hs36 := St.f4 hs30
    have hs37 := St.f2 hs36
    refine zC22 hs37 (tfind_walk (mb := b21) (vb := vb) (tx_ := xn_) (img := img) (l := l) (gw := gw) (gi := gi) (gb := gb) (n_ := n_) (hm := h35) B _) fun w38 hs40 => ?_
    refine zR 4 ?_
    refine zN [(.string ByteArray.empty), (zi 0)] 33 hs40 fun b43 w41 hs42 => ?_
    refine zT 0 [(.string r34.1), (zi r34.2.1)] [(.string r34.1), (zi r34.2.1)] hs42 fun w44 hs46 => ?_
    refine zE 2 (hK33 _ _ ?_)
    refine W.seq fun K47 hK47 => ?_
    refine W.sr fun K48 hK48 => ?_
    refine zE 2 (hK48 _ _ ?_)
    refine W.cond (!decide (r34.2.2.2 = 0)) (by kernel_rfl) (fun h49 => ?_) (fun h49 => ?_)
    rotate_left
    ·
     have h49p : r34.2.2.2 = 0 := of_decide_eq_true (bnot_false h49)
     replace hm := ite_yes hm h49p
     refine W.skip ?_
     refine hK47 _ _ ?_
     refine W.sr fun K50 hK50 => ?_
     refine zR 1 ?_
     refine zL ⟨b27, 4, none⟩ (zp b21) (hs46.cellAt 3 rfl rfl) ?_
     refine zR 1 ?_
     obtain ⟨r51, h52, hm⟩ := bind_some hm
     refine zC00 hs46 (bat_walk (k_ := r34.2.2.1) (img := img) (l := l) (gw := gw) (gi := gi) (gb := gb) (n_ := n_) (hmb := (hs46.heapAt 1 rfl)) (hv := (hs46.entAt 2 rfl viewA_at)) (hm := h52) B _) fun w53 hs55 => ?_
     refine zE 5 (hK50 _ _ ?_)
     refine W.seq fun K56 hK56 => ?_
     refine W.sr fun K57 hK57 => ?_
     refine zE 2 (hK57 _ _ ?_)
     refine W.cond (!decide (r51.2 = 0)) (by kernel_rfl) (fun h58 => ?_) (fun h58 => ?_)
     rotate_left
     ·
      have h58p : r51.2 = 0 := of_decide_eq_true (bnot_false h58)
      replace hm := ite_yes hm h58p
      refine W.skip ?_
      refine hK56 _ _ ?_
      refine W.seq fun K59 hK59 => ?_
      have hs60 := hs55.drew
      have hs61 := St.f5 hs60
      have hs62 := St.f5 hs61
      have hs63 := St.f5 hs62
      have hs64 := St.f4 hs63
      have hs65 := St.f4 hs64
      have hs66 := St.tk5 hs65
      refine W.regionD [(0, 0), (0, 0), (0, 0), (6, 6), (0, 0), (16, 16), (32, 32), (73, 73), (255, 128)] (fun w_ => St B w l0 w_ [zb b43 33 [(.string r34.1), (zi r34.2.1)], zb b21 164 [(zp vb), (zi gw), (zi gi), (zi gb), (zi n_)], zb b27 97 [(zp vb), (zi gw), (zi gi), (zi gb), (zp b21)], zb b7 33 [(.string xn_), (zi xi_)], zb b4 31 [(zi gw), (zi gi), (zi gb)]]) (by kernel_rfl) hs66 ?_
      refine zA (zp vb) 0 hs66 ?_
      refine any_R 1 (by kernel_rfl) (fun _ hS_ => runs_loadAgg (ad := ⟨b4, 0, none⟩) (cs := [(zi gw), (zi gi), (zi gb)]) (by kernel_rfl) (cells_sub (hS_.heapAt 4 rfl) rfl)) hs66 ?_
      refine zA (zi r51.1) 2 hs66 ?_
      refine zA (.pointer (some ⟨b7, 1, none⟩)) 4 hs66 ?_
      refine zB 5 ⟨b7, 1, none⟩ (zi xi_) (fun _ hS_ => (hS_.cellAt 3 rfl rfl)) hs66 ?_
      obtain ⟨h67, hm⟩ := need_some hm
      refine any_val (v := .int .u64 (IntKind.u64.wrap xi_)) (v' := .int .u64 xi_) 6 (by kernel_rfl) (fun _ => by kernel_rfl) (congrArg (Value.int .u64) (wrap_u64 h67.1 (Int.lt_of_le_of_lt h67.2 (by decide)))) hs66 ?_
      refine any_step 3 (by kernel_rfl) (by kernel_rfl) ?_
      refine zC00 hs60 (blockat_spec (gw := gw) (gi := gi) (gb := gb) (n_ := r51.1) B _) fun w68 hs70 => ?_
      have hs71 := St.f5 hs70
      have hs72 := St.f5 hs71
      have hs73 := St.f5 hs72
      have hs74 := St.f4 hs73
      have hs75 := St.f4 hs74
      have hs76 := St.tk5 hs75
      refine ops_done (by kernel_rfl) ⟨hs76, ?_⟩
      refine any_step 7 (by kernel_rfl) (by kernel_rfl) ?_
      have hs77 := St.f2 hs70
      refine zC11 hs77 (sset_spec (b := vb) (img := img) (l := l) (at_ := (placeOf 9 gw gi gb r51.1)) (x_ := xi_) B _) fun w78 hs80 => ?_
      have hs81 := St.f5 hs80
      have hs82 := St.f5 hs81
      have hs83 := St.f5 hs82
      have hs84 := St.f5 hs83
      have hs85 := St.f5 hs84
      have hs86 := St.tk5 hs85
      refine ops_done (by kernel_rfl) ⟨hs86, ?_⟩
      refine zA (zi ((vwrite img l (placeOf 9 gw gi gb r51.1) xi_).1)) 8 hs86 ?_
      refine any_done (by kernel_rfl) ?_
      refine hK59 _ _ ?_
      refine W.ret ?_
      obtain rfl := some_inj hm
      have hs87 := St.tk1 hs80
      refine ret_of (zi ((vwrite img l (placeOf 9 gw gi gb r51.1) xi_).1)) (by kernel_rfl) ⟨_, ⟨rfl, rfl⟩, hs87⟩
     have h58p : ¬ (r51.2 = 0) := of_decide_eq_false (bnot_true h58)
     replace hm := ite_no hm h58p
     refine W.sr fun K88 hK88 => ?_
     refine zE 2 (hK88 _ _ ?_)
     refine W.ret (ret_seq ?_)
     obtain rfl := some_inj hm
     have hs89 := St.f2 hs55
     have hs90 := St.tk1 hs89
     refine ret_of (zi r51.2) (by kernel_rfl) ⟨_, ⟨rfl, rfl⟩, hs90⟩
    have h49p : ¬ (r34.2.2.2 = 0) := of_decide_eq_false (bnot_true h49)
    replace hm := ite_no hm h49p
    refine W.sr fun K91 hK91 => ?_
    refine zE 2 (hK91 _ _ ?_)
    refine W.ret (ret_seq ?_)
    obtain rfl := some_inj hm
    have hs92 := St.f2 hs46
    have hs93 := St.tk1 hs92
    refine ret_of (zi r34.2.2.2) (by kernel_rfl) ⟨_, ⟨rfl, rfl⟩, hs93⟩
   obtain ⟨h20p, hm⟩ := iN hm h20
   refine zC00 hs14 (eopen_dir (gw := gw) (gi := gi) (gb := gb) (n_ := n_) (hv := (hs14.entAt 2 rfl viewA_at)) (hP := h19p) (hK := h20p) B _) fun w94 hs96 => ?_
   refine zR 3 ?_
   refine zN [(.pointer none), (zi 0), (zi 0), (zi 0), (.pointer none)] 97 hs96 fun b99 w97 hs98 => ?_
   refine zT 0 [(.pointer none), (zi 0), (zi 0), (zi 0), (.pointer none)] [(.pointer none), (zi 0), (zi 0), (zi 0), (.pointer none)] hs98 fun w100 hs102 => ?_
   refine zE 1 (hK18 _ _ ?_)
   refine W.seq fun K103 hK103 => ?_
   refine W.sr fun K104 hK104 => ?_
   refine zE 2 (hK104 _ _ ?_)
   refine W.cond_true true (by kernel_rfl) rfl ?_
   refine W.sr fun K105 hK105 => ?_
   refine zE 2 (hK105 _ _ ?_)
   refine W.ret (ret_seq ?_)
   obtain rfl := some_inj hm
   have hs106 := St.f3 hs102
   have hs107 := St.tk1 hs106
   refine ret_of (zi 10) (by kernel_rfl) ⟨_, ⟨rfl, rfl⟩, hs107⟩
  obtain ⟨h19p, hm⟩ := iN hm h19
  refine zC00 hs14 (eopen_err (gw := gw) (gi := gi) (gb := gb) (n_ := n_) (hv := (hs14.entAt 2 rfl viewA_at)) (hN := h19p) B _) fun w108 hs110 => ?_
  refine zR 3 ?_
  refine zN [(.pointer none), (zi 0), (zi 0), (zi 0), (.pointer none)] 97 hs110 fun b113 w111 hs112 => ?_
  refine zT 0 [(.pointer none), (zi 0), (zi 0), (zi 0), (.pointer none)] [(.pointer none), (zi 0), (zi 0), (zi 0), (.pointer none)] hs112 fun w114 hs116 => ?_
  refine zR 1 ?_
  obtain ⟨r117, h118, hm⟩ := bind_some hm
  replace h118 := some_inj h118
  refine ops_set 11 (v := .int .i64 r117) (Eq.trans (by kernel_rfl) (congrArg (Value.int .i64) h118)) ?_
  refine zD (hK18 _ _ ?_)
  refine W.seq fun K119 hK119 => ?_
  refine W.sr fun K120 hK120 => ?_
  refine zE 2 (hK120 _ _ ?_)
  refine W.cond (!decide (r117 = 0)) (by kernel_rfl) (fun h121 => ?_) (fun h121 => ?_)
  rotate_left
  ·
   have h121p : r117 = 0 := of_decide_eq_true (bnot_false h121)
   exact absurd h121p (fun e_ => h19p (h118.trans e_))
  have h121p : ¬ (r117 = 0) := of_decide_eq_false (bnot_true h121)
  replace hm := ite_no hm h121p
  refine W.sr fun K122 hK122 => ?_
  refine zE 2 (hK122 _ _ ?_)
  refine W.ret (ret_seq ?_)
  obtain rfl := some_inj hm
  have hs123 := St.f3 hs116
  have hs124 := St.tk1 hs123
  refine ret_of (zi r117) (by kernel_rfl) ⟨_, ⟨rfl, rfl⟩, hs124⟩
 have h16p : ¬ (r10 = 0) := of_decide_eq_false (bnot_true h16)
 replace hm := ite_no hm h16p
 refine W.sr fun K125 hK125 => ?_
 refine zE 2 (hK125 _ _ ?_)
 refine W.ret (ret_seq ?_)
 obtain rfl := some_inj hm
 have hs126 := St.f2 hs14
 have hs127 := St.tk1 hs126
 refine ret_of (zi r10) (by kernel_rfl) ⟨_, ⟨rfl, rfl⟩, hs127⟩
def eRemove_M (img : List Int) (l : List (Int × Int)) (gw : Int) (gi : Int) (gb : Int) (n_ : Int) (tx_ : ByteArray) : Option (Int × List (Int × Int)) :=
 if (igetM img l gw gi gb n_).2 = 0 then (if (igetM img l gw gi gb n_).1.k = 2 then ((tfind_M img l gw gi gb n_ tx_).bind fun r22 =>
if r22.2.2.2 = 0 then ((bDrop_M img l gw gi gb n_ r22.2.2.1).bind fun r39 =>
some (r39.1, r39.2)) else (some (r22.2.2.2, l))) else (some (10, l))) else ((some ((igetM img l gw gi gb n_).2)).bind fun r74 =>
if r74 = 0 then (none) else (some (r74, l)))
theorem eRemove_walk {img : List Int} {l : List (Int × Int)} {gw : Int} {gi : Int} {gb : Int} {n_ : Int} {tx_ : ByteArray} {vb : Nat} {r : Int × List (Int × Int)} (B : Nat) (w : World) (hm : eRemove_M img l gw gi gb n_ tx_ = some r) : Spec Tryz.prog 21 #[(zp vb), (.agg #[(zi gw), (zi gi), (zi gb)]), (zi n_), (.string tx_)] B w [viewA (ptr vb) img l] (fun v H' => v = .int .i64 r.1 ∧ H' = [viewA (ptr vb) img r.2]) := by
 refine spec_W Tryz.func21 rfl fun l0 hs => ?_
 unfold eRemove_M at hm
 refine W.sr fun K1 hK1 => ?_
 refine zN [(zi gw), (zi gi), (zi gb)] 31 hs fun b4 w2 hs3 => ?_
 refine zE 1 (hK1 _ _ ?_)
 refine W.sr fun K6 hK6 => ?_
 refine zR 1 ?_
 refine zG ⟨b4, 0, none⟩ [(zi gw), (zi gi), (zi gb)] (cells_sub (hs3.heapAt 0 rfl) rfl) ?_
 refine zR 1 ?_
 rcases Bool.eq_false_or_eq_true (decide ((igetM img l gw gi gb n_).2 = 0)) with h7 | h7
 ·
  obtain ⟨h7p, hm⟩ := iY hm h7
  rcases Bool.eq_false_or_eq_true (decide ((igetM img l gw gi gb n_).1.k = 2)) with h8 | h8
  ·
   obtain ⟨h8p, hm⟩ := iY hm h8
   refine ops_call0 hs3 (by kernel_rfl) (eopen_ok (gw := gw) (gi := gi) (gb := gb) (n_ := n_) (hv := (hs3.entAt 1 rfl viewA_at)) (hP := h7p) (hK := h8p) B _) ?_
   rintro _ _ w10 ⟨b9, rfl, rfl⟩ hs11
   have hs12 := St.ap1 hs11
   refine zR 3 ?_
   refine zN [(.pointer none), (zi 0), (zi 0), (zi 0), (.pointer none)] 97 hs12 fun b15 w13 hs14 => ?_
   refine zT 0 [(zp vb), (zi gw), (zi gi), (zi gb), (zp b9)] [(zp vb), (zi gw), (zi gi), (zi gb), (zp b9)] hs14 fun w16 hs18 => ?_
   refine zE 1 (hK6 _ _ ?_)
   refine W.seq fun K19 hK19 => ?_
   refine W.sr fun K20 hK20 => ?_
   refine zE 2 (hK20 _ _ ?_)
   refine W.cond_false false (by kernel_rfl) rfl ?_
   refine W.skip ?_
   refine hK19 _ _ ?_
   refine W.sr fun K21 hK21 => ?_
   refine zG ⟨b15, 0, none⟩ [(zp vb), (zi gw), (zi gi), (zi gb), (zp b9)] (cells_sub (hs18.heapAt 0 rfl) rfl) ?_
   refine zR 1 ?_
   obtain ⟨r22, h23, hm⟩ := bind_some hm
   have hs24 := St.f3 hs18
   have hs25 := St.f2 hs24
   refine zC22 hs25 (tfind_walk (mb := b9) (vb := vb) (tx_ := tx_) (img := img) (l := l) (gw := gw) (gi := gi) (gb := gb) (n_ := n_) (hm := h23) B _) fun w26 hs28 => ?_
   refine zR 4 ?_
   refine zN [(.string ByteArray.empty), (zi 0)] 33 hs28 fun b31 w29 hs30 => ?_
   refine zT 0 [(.string r22.1), (zi r22.2.1)] [(.string r22.1), (zi r22.2.1)] hs30 fun w32 hs34 => ?_
   refine zE 2 (hK21 _ _ ?_)
   refine W.seq fun K35 hK35 => ?_
   refine W.sr fun K36 hK36 => ?_
   refine zE 2 (hK36 _ _ ?_)
   refine W.cond (!decide (r22.2.2.2 = 0)) (by kernel_rfl) (fun h37 => ?_) (fun h37 => ?_)
   rotate_left
   ·
    have h37p : r22.2.2.2 = 0 := of_decide_eq_true (bnot_false h37)
    replace hm := ite_yes hm h37p
    refine W.skip ?_
    refine hK35 _ _ ?_
    refine W.sr fun K38 hK38 => ?_
    refine zR 1 ?_
    refine zL ⟨b15, 4, none⟩ (zp b9) (hs34.cellAt 3 rfl rfl) ?_
    refine zR 1 ?_
    obtain ⟨r39, h40, hm⟩ := bind_some hm
    have hs41 := St.f2 hs34
    have hs42 := St.f2 hs41
    refine zC22 hs42 (bDrop_walk (mb := b9) (vb := vb) (k_ := r22.2.2.1) (img := img) (l := l) (gw := gw) (gi := gi) (gb := gb) (n_ := n_) (hm := h40) B _) fun w43 hs45 => ?_
    refine zE 1 (hK38 _ _ ?_)
    refine W.ret ?_
    obtain rfl := some_inj hm
    have hs46 := St.f1 hs45
    have hs47 := St.tk1 hs46
    refine ret_of (zi r39.1) (by kernel_rfl) ⟨_, ⟨rfl, rfl⟩, hs47⟩
   have h37p : ¬ (r22.2.2.2 = 0) := of_decide_eq_false (bnot_true h37)
   replace hm := ite_no hm h37p
   refine W.sr fun K48 hK48 => ?_
   refine zE 2 (hK48 _ _ ?_)
   refine W.ret (ret_seq ?_)
   obtain rfl := some_inj hm
   have hs49 := St.f2 hs34
   have hs50 := St.tk1 hs49
   refine ret_of (zi r22.2.2.2) (by kernel_rfl) ⟨_, ⟨rfl, rfl⟩, hs50⟩
  obtain ⟨h8p, hm⟩ := iN hm h8
  refine zC00 hs3 (eopen_dir (gw := gw) (gi := gi) (gb := gb) (n_ := n_) (hv := (hs3.entAt 1 rfl viewA_at)) (hP := h7p) (hK := h8p) B _) fun w51 hs53 => ?_
  refine zR 3 ?_
  refine zN [(.pointer none), (zi 0), (zi 0), (zi 0), (.pointer none)] 97 hs53 fun b56 w54 hs55 => ?_
  refine zT 0 [(.pointer none), (zi 0), (zi 0), (zi 0), (.pointer none)] [(.pointer none), (zi 0), (zi 0), (zi 0), (.pointer none)] hs55 fun w57 hs59 => ?_
  refine zE 1 (hK6 _ _ ?_)
  refine W.seq fun K60 hK60 => ?_
  refine W.sr fun K61 hK61 => ?_
  refine zE 2 (hK61 _ _ ?_)
  refine W.cond_true true (by kernel_rfl) rfl ?_
  refine W.sr fun K62 hK62 => ?_
  refine zE 2 (hK62 _ _ ?_)
  refine W.ret (ret_seq ?_)
  obtain rfl := some_inj hm
  have hs63 := St.f2 hs59
  have hs64 := St.tk1 hs63
  refine ret_of (zi 10) (by kernel_rfl) ⟨_, ⟨rfl, rfl⟩, hs64⟩
 obtain ⟨h7p, hm⟩ := iN hm h7
 refine zC00 hs3 (eopen_err (gw := gw) (gi := gi) (gb := gb) (n_ := n_) (hv := (hs3.entAt 1 rfl viewA_at)) (hN := h7p) B _) fun w65 hs67 => ?_
 refine zR 3 ?_
 refine zN [(.pointer none), (zi 0), (zi 0), (zi 0), (.pointer none)] 97 hs67 fun b70 w68 hs69 => ?_
 refine zT 0 [(.pointer none), (zi 0), (zi 0), (zi 0), (.pointer none)] [(.pointer none), (zi 0), (zi 0), (zi 0), (.pointer none)] hs69 fun w71 hs73 => ?_
 refine zR 1 ?_
 obtain ⟨r74, h75, hm⟩ := bind_some hm
 replace h75 := some_inj h75
 refine ops_set 10 (v := .int .i64 r74) (Eq.trans (by kernel_rfl) (congrArg (Value.int .i64) h75)) ?_
 refine zD (hK6 _ _ ?_)
 refine W.seq fun K76 hK76 => ?_
 refine W.sr fun K77 hK77 => ?_
 refine zE 2 (hK77 _ _ ?_)
 refine W.cond (!decide (r74 = 0)) (by kernel_rfl) (fun h78 => ?_) (fun h78 => ?_)
 rotate_left
 ·
  have h78p : r74 = 0 := of_decide_eq_true (bnot_false h78)
  exact absurd h78p (fun e_ => h7p (h75.trans e_))
 have h78p : ¬ (r74 = 0) := of_decide_eq_false (bnot_true h78)
 replace hm := ite_no hm h78p
 refine W.sr fun K79 hK79 => ?_
 refine zE 2 (hK79 _ _ ?_)
 refine W.ret (ret_seq ?_)
 obtain rfl := some_inj hm
 have hs80 := St.f2 hs73
 have hs81 := St.tk1 hs80
 refine ret_of (zi r74) (by kernel_rfl) ⟨_, ⟨rfl, rfl⟩, hs81⟩
end Go.Proofs.YtmmclabkkigiaaaGreatDoor

namespace Go.Proofs.YtmmclabkkigiaaaGreatDoor
open Go Go.RowKit
structure TEn where
  c0 : ByteArray
  c1 : Int
def dEn : TEn := (⟨.empty, 0⟩ : TEn)
def kEn : Kind TEn := ⟨33, 2, fun x => [.string x.c0, .int .i64 x.c1], by decide, fun _ => rfl, fun _ => rfl⟩
structure TSt15 where
  c0 : Int
  c1 : Int
  c2 : ByteArray
  c3 : Int
  c4 : Bool
def dSt15 : TSt15 := (⟨0, 0, .empty, 0, false⟩ : TSt15)
def kSt15 : Kind TSt15 := ⟨57, 5, fun x => [.int .u8 x.c0, .int .i64 x.c1, .string x.c2, .int .i64 x.c3, .bool x.c4], by decide, fun _ => rfl, fun _ => rfl⟩
def good_St15 (x : TSt15) : Prop := (0 ≤ x.c0 ∧ x.c0 ≤ 255) ∧ (-9223372036854775808 ≤ x.c1 ∧ x.c1 ≤ 9223372036854775807) ∧ (-9223372036854775808 ≤ x.c3 ∧ x.c3 ≤ 9223372036854775807)
structure TRe where
  c0 : ByteArray
  c1 : Int
def dRe : TRe := (⟨.empty, 0⟩ : TRe)
def kRe : Kind TRe := ⟨61, 2, fun x => [.string x.c0, .int .i64 x.c1], by decide, fun _ => rfl, fun _ => rfl⟩
end Go.Proofs.YtmmclabkkigiaaaGreatDoor
