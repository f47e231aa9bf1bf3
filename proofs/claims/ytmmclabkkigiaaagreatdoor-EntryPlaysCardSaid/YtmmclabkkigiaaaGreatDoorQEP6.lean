/- Texts, one behind the other: A5l, A5W, P5w, PEa, PEb, A6m, A6q, A6r, PEr, A7h, A7i, F6j, A6h, A6k, A6i, A6j. -/
import Derived.Test.YtmmclabkkigiaaaGreatDoorQEP5
set_option linter.unusedVariables false
set_option linter.unusedSimpArgs false
set_option maxRecDepth 20000
set_option maxHeartbeats 8000000
namespace Go.Proofs.YtmmclabkkigiaaaGreatDoor
open Go Go.RowKit
def eList_D46 (q44 : List TEn) : Option (List TEn × Int) :=
 some (q44, 0)
def eList_X46 (p47 : Int) : Option (List TEn × Int) :=
 some ([], p47)
def eList_R46 (img : List Int) (l : List (Int × Int)) (gw : Int) (gi : Int) (gb : Int) (n_ : Int) (k40 : Nat) (c41 : (List TEn) → Option (List TEn × Int)) (q44 : List TEn) : Option (List TEn × Int) :=
 (some (((0 : Int) + (k40 : Int)) % 12)).bind fun r113 =>
(tentry_M img l gw gi gb n_ r113).bind fun r118 =>
if r118.2.2 = 0 then (if r118.1 = ByteArray.empty ∧ r118.2.1 = 0 then (c41 q44) else (need (q44.length + ([(⟨r118.1, r118.2.1⟩ : TEn)]).length ≤ 1000000000) <|
c41 (q44 ++ [(⟨r118.1, r118.2.1⟩ : TEn)]))) else (eList_X46 r118.2.2)
def eList_M (img : List Int) (l : List (Int × Int)) (gw : Int) (gi : Int) (gb : Int) (n_ : Int) : Option (List TEn × Int) :=
 if (igetM img l gw gi gb n_).2 = 0 then (if (igetM img l gw gi gb n_).1.k = 2 then (need ((0 : Int) ≤ 0 ∧ (0 : Int) ≤ 12) <|
rounds (fun k_ c_ s_ => eList_R46 img l gw gi gb n_ k_ c_ s_) (fun s_ => eList_D46 s_) 12 0 ([])) else (some ([], 10))) else (if (igetM img l gw gi gb n_).2 = 0 then (none) else (some ([], (igetM img l gw gi gb n_).2)))
theorem eList_walk {img : List Int} {l : List (Int × Int)} {gw : Int} {gi : Int} {gb : Int} {n_ : Int} {vb : Nat} {r : List TEn × Int} (B : Nat) (w : World) (hm : eList_M img l gw gi gb n_ = some r) : Spec Tryz.prog 14 #[(zp vb), (.agg #[(zi gw), (zi gi), (zi gb)]), (zi n_)] B w [viewA (ptr vb) img l] (fun v H' => ∃ a' c', v = .tuple #[.slice a' r.1.length c', .int .i64 r.2] ∧ H' = [kEn.row a' c' r.1, viewA (ptr vb) img l]) := by
 refine spec_W Tryz.func14 rfl fun l0 hs => ?_
 unfold eList_M at hm
 refine W.sr fun K1 hK1 => ?_
 refine zN [(zi gw), (zi gi), (zi gb)] 31 hs fun b4 w2 hs3 => ?_
 refine zN [(.slice none 0 0)] 37 hs3 fun b7 w5 hs6 => ?_
 refine zN [(zi 0)] 34 hs6 fun b10 w8 hs9 => ?_
 refine zD (hK1 _ _ ?_)
 refine W.sr fun K13 hK13 => ?_
 refine zR 1 ?_
 refine zG ⟨b4, 0, none⟩ [(zi gw), (zi gi), (zi gb)] (cells_sub (hs9.heapAt 2 rfl) rfl) ?_
 refine zR 1 ?_
 rcases Bool.eq_false_or_eq_true (decide ((igetM img l gw gi gb n_).2 = 0)) with h14 | h14
 ·
  obtain ⟨h14p, hm⟩ := iY hm h14
  rcases Bool.eq_false_or_eq_true (decide ((igetM img l gw gi gb n_).1.k = 2)) with h15 | h15
  ·
   obtain ⟨h15p, hm⟩ := iY hm h15
   refine ops_call0 hs9 (by kernel_rfl) (eopen_ok (gw := gw) (gi := gi) (gb := gb) (n_ := n_) (hv := (hs9.entAt 3 rfl viewA_at)) (hP := h14p) (hK := h15p) B _) ?_
   rintro _ _ w17 ⟨b16, rfl, rfl⟩ hs18
   have hs19 := St.ap1 hs18
   refine zR 3 ?_
   refine zN [(.pointer none), (zi 0), (zi 0), (zi 0), (.pointer none)] 97 hs19 fun b22 w20 hs21 => ?_
   refine zT 0 [(zp vb), (zi gw), (zi gi), (zi gb), (zp b16)] [(zp vb), (zi gw), (zi gi), (zi gb), (zp b16)] hs21 fun w23 hs25 => ?_
   have hs28 := St.f2 hs25
   refine zT 0 [(zi 0)] [(zi 0)] hs28 fun w26 hs29 => ?_
   refine zD (hK13 _ _ ?_)
   refine W.seq fun K30 hK30 => ?_
   refine W.sr fun K31 hK31 => ?_
   refine zL ⟨b10, 0, none⟩ (zi 0) (hs29.cellAt 0 rfl rfl) ?_
   refine zE 1 (hK31 _ _ ?_)
   refine W.cond_false false (by kernel_rfl) rfl ?_
   refine W.skip ?_
   refine hK30 _ _ ?_
   refine W.seq fun K32 hK32 => ?_
   refine W.sr fun K33 hK33 => ?_
   refine ops_call0 hs29 (by kernel_rfl) (around_spec (f_ := 0) B _) ?_
   rintro _ _ w35 ⟨b34, rfl, rfl⟩ hs36
   have hs37 := St.ap1 hs36
   refine zD (hK33 _ _ ?_)
   refine W.block ?_
   obtain ⟨h38, hm⟩ := need_some hm
   refine W.norm (n := 41) (l := [(6, (zp b7)), (7, (zp b10)), (8, (zp b22)), (22, (.func (.func 83) #[] #[(zp b34)]))]) (by kernel_rfl) (fun us39 => ?_)
   have hs45 := St.knil kEn hs37
   have hs52 := St.f6 hs45
   have hs53 := St.f6 hs52
   have hs54 := St.f2 hs53
   have hs55 := St.f5 hs54
   have hs56 := St.f6 hs55
   have hs57 := St.f7 hs56
   have hs58 := St.f7 hs57
   have hs59 := St.f7 hs58
   have hF60 : rounds (fun k_ c_ s_ => eList_R46 img l gw gi gb n_ k_ c_ s_) (fun s_ => eList_D46 s_) (12 - 0) 0 ([]) = some r := by rw [Nat.sub_zero]; exact hm
   clear hm
   refine W.roundsA (G := (List TEn) × (Option Addr) × Nat) (GZ := Int) (gf := 83) (lb := #[(zp b34)]) 12 (fun k_ (q44, m42, m43) => rounds (fun k_ c_ s_ => eList_R46 img l gw gi gb n_ k_ c_ s_) (fun s_ => eList_D46 s_) (12 - k_) k_ q44 = some r) (fun (q44, m42, m43) => [zb b10 34 [(zi 0)], viewA (ptr vb) img l, zb b16 164 [(zp vb), (zi gw), (zi gi), (zi gb), (zi n_)], zb b22 97 [(zp vb), (zi gw), (zi gi), (zi gb), (zp b16)], kEn.row m42 m43 q44, zb b7 37 [(.slice m42 q44.length m43)], zb b4 31 [(zi gw), (zi gi), (zi gb)]]) .ret (fun p47 => eList_X46 p47 = some r) (fun p47 => [zb b10 34 [(zi p47)], viewA (ptr vb) img l, zb b16 164 [(zp vb), (zi gw), (zi gi), (zi gb), (zi n_)], zb b22 97 [(zp vb), (zi gw), (zi gi), (zi gb), (zp b16)], zb b7 37 [(.slice none 0 0)], zb b4 31 [(zi gw), (zi gi), (zi gb)]]) [zb b34 3 [(zi 0)]] (fun k_ => #[(zi (((0 : Int) + (k_ : Int)) % 12))]) (fun k_ l_ => slotsD 41 ((23, (zi (((0 : Int) + (k_ : Int)) % 12))) :: [(6, (zp b7)), (7, (zp b10)), (8, (zp b22)), (22, (.func (.func 83) #[] #[(zp b34)]))]) us39 (some l_) []) ([], none, 0) hF60 hs59 rfl (by kernel_rfl) (fun _ _ => by kernel_rfl) (fun _ => rfl) (fun a_ k_ l_ h1_ h2_ => ⟨rel_round1 (n := 41) (by decide) h1_ h2_, rfl⟩) (fun l_ => #[.func (.yield l_) #[] #[], (zp b34)]) (fun _ => rfl) (fun l_ w_ Y_ Z_ hy_ => around1_spec (f_ := 0) (yl := l_) (Y := Y_) (Z := Z_) (hf := h38) (hy := fun k_ h_ w_ => hy_ k_ h_ w_) _ w_) ?_ ?_ ?_
   rotate_left
   ·
    rintro D51 w61 ⟨q44, m42, m43⟩ hF63 hs62
    replace hF63 : rounds (fun k_ c_ s_ => eList_R46 img l gw gi gb n_ k_ c_ s_) (fun s_ => eList_D46 s_) (12 - 12) 12 q44 = some r := hF63
    rw [rounds_end] at hF63
    have hm : eList_D46 q44 = some r := hF63
    clear hF63
    unfold eList_D46 at hm
    have hs64 : St B w l0 w61 [blk D51 (.deferred (some [])), zb b34 3 [(zi 0)], zb b10 34 [(zi 0)], viewA (ptr vb) img l, zb b16 164 [(zp vb), (zi gw), (zi gi), (zi gb), (zi n_)], zb b22 97 [(zp vb), (zi gw), (zi gi), (zi gb), (zp b16)], kEn.row m42 m43 q44, zb b7 37 [(.slice m42 q44.length m43)], zb b4 31 [(zi gw), (zi gi), (zi gb)]] := hs62
    refine normal_block ?_
    refine hK32 _ _ ?_
    refine W.sr fun K65 hK65 => ?_
    refine zL ⟨b7, 0, none⟩ (.slice m42 q44.length m43) (hs64.cellAt 7 rfl rfl) ?_
    have hs68 := St.f7 hs64
    refine zT 0 [(.slice m42 q44.length m43)] [(.slice m42 q44.length m43)] hs68 fun w66 hs69 => ?_
    have hs72 := St.f3 hs69
    refine zT 0 [(zi 0)] [(zi 0)] hs72 fun w70 hs73 => ?_
    refine zD (hK65 _ _ ?_)
    refine W.ret ?_
    obtain rfl := some_inj hm
    have hs74 := St.f8 hs73
    have hs75 := St.f8 hs74
    have hs76 := St.f8 hs75
    have hs77 := St.f8 hs76
    have hs78 := St.f8 hs77
    have hs79 := St.f8 hs78
    have hs80 := St.f7 hs79
    have hs81 := St.f7 hs80
    have hs82 := St.f8 hs81
    refine leave_mark (D := D51) (v := (.tuple #[(.slice m42 q44.length m43), (zi 0)])) hs82 (by kernel_rfl) (fun w83 hs84 => (resD_two rfl (.cell (ad := ⟨b7, 0, none⟩) (by kernel_rfl) (by kernel_rfl) (hs84.cellAt 1 rfl rfl)) (.cell (ad := ⟨b10, 0, none⟩) (by kernel_rfl) (by kernel_rfl) (hs84.cellAt 0 rfl rfl)))) (fun w83 hs84 => ?_)
    have hs85 := St.f3 hs84
    have hs86 := St.f6 hs85
    have hs87 := St.tk2 hs86
    exact ⟨_, ⟨m42, m43, rfl, rfl⟩, hs87⟩
   ·
    rintro D90 w88 p47 hm hs89
    replace hm : eList_X46 p47 = some r := hm
    unfold eList_X46 at hm
    have hs91 : St B w l0 w88 [blk D90 (.deferred (some [])), zb b34 3 [(zi 0)], zb b10 34 [(zi p47)], viewA (ptr vb) img l, zb b16 164 [(zp vb), (zi gw), (zi gi), (zi gb), (zi n_)], zb b22 97 [(zp vb), (zi gw), (zi gi), (zi gb), (zp b16)], zb b7 37 [(.slice none 0 0)], zb b4 31 [(zi gw), (zi gi), (zi gb)]] := hs89
    refine W.ret (ret_block (ret_seq ?_))
    have hs92 := St.knil kEn hs91
    obtain rfl := some_inj hm
    have hs93 := St.f8 hs92
    have hs94 := St.f8 hs93
    have hs95 := St.f8 hs94
    have hs96 := St.f8 hs95
    have hs97 := St.f8 hs96
    have hs98 := St.f8 hs97
    have hs99 := St.f8 hs98
    have hs100 := St.f7 hs99
    have hs101 := St.f8 hs100
    refine leave_mark (D := D90) (v := (.tuple #[(.slice none 0 0), (zi p47)])) hs101 (by kernel_rfl) (fun w102 hs103 => (resD_two rfl (.cell (ad := ⟨b7, 0, none⟩) (by kernel_rfl) (by kernel_rfl) (hs103.cellAt 6 rfl rfl)) (.cell (ad := ⟨b10, 0, none⟩) (by kernel_rfl) (by kernel_rfl) (hs103.cellAt 2 rfl rfl)))) (fun w102 hs103 => ?_)
    have hs104 := St.f3 hs103
    have hs105 := St.f1 hs104
    have hs106 := St.tk2 hs105
    exact ⟨_, ⟨none, 0, rfl, rfl⟩, hs106⟩
   rintro k40 hk107 rc49 l48 w108 ⟨q44, m42, m43⟩ hF112 lf109 hs110 K111 hK111
   replace hF112 : rounds (fun k_ c_ s_ => eList_R46 img l gw gi gb n_ k_ c_ s_) (fun s_ => eList_D46 s_) (12 - k40) k40 q44 = some r := hF112
   rw [rounds_at hk107] at hF112
   obtain ⟨c41, hc41⟩ : ∃ c_, c_ = rounds (fun k_ c_ s_ => eList_R46 img l gw gi gb n_ k_ c_ s_) (fun s_ => eList_D46 s_) (12 - (k40 + 1)) (k40 + 1) := ⟨_, rfl⟩
   rw [← hc41] at hF112
   have hm : eList_R46 img l gw gi gb n_ k40 c41 q44 = some r := hF112
   clear hF112
   unfold eList_R46 at hm
   refine W.region ?_
   refine zR 1 ?_
   obtain ⟨r113, h114, hm⟩ := bind_some hm
   replace h114 := some_inj h114
   refine ops_set 9 (v := .int .i64 r113) (Eq.trans (by kernel_rfl) (congrArg (Value.int .i64) h114)) ?_
   refine zD ?_
   refine hK111 _ _ hs110 (fun w115 hs116 => ?_)
   refine W.block ?_
   refine W.sr fun K117 hK117 => ?_
   refine zG ⟨b22, 0, none⟩ [(zp vb), (zi gw), (zi gi), (zi gb), (zp b16)] (cells_sub (hs116.heapAt 4 rfl) rfl) ?_
   refine zR 1 ?_
   obtain ⟨r118, h119, hm⟩ := bind_some hm
   have hs120 := St.f2 hs116
   have hs121 := St.f3 hs120
   refine zC22 hs121 (tentry_walk (mb := b16) (vb := vb) (k_ := r113) (img := img) (l := l) (gw := gw) (gi := gi) (gb := gb) (n_ := n_) (hm := h119) B _) fun w122 hs124 => ?_
   refine zR 3 ?_
   refine zN [(.string ByteArray.empty), (zi 0)] 33 hs124 fun b127 w125 hs126 => ?_
   refine zT 0 [(.string r118.1), (zi r118.2.1)] [(.string r118.1), (zi r118.2.1)] hs126 fun w128 hs130 => ?_
   refine zE 1 (hK117 _ _ ?_)
   refine W.seq fun K131 hK131 => ?_
   refine W.sr fun K132 hK132 => ?_
   refine zE 2 (hK132 _ _ ?_)
   refine W.cond (!decide (r118.2.2 = 0)) (by kernel_rfl) (fun h133 => ?_) (fun h133 => ?_)
   rotate_left
   ·
    have h133p : r118.2.2 = 0 := of_decide_eq_true (bnot_false h133)
    replace hm := ite_yes hm h133p
    refine W.skip ?_
    refine hK131 _ _ ?_
    refine W.sr fun K134 hK134 => ?_
    refine zG ⟨b127, 0, none⟩ [(.string r118.1), (zi r118.2.1)] (cells_sub (hs130.heapAt 0 rfl) rfl) ?_
    refine zR 1 ?_
    refine ops_R (v := (.bool (!((r118.1 == ByteArray.empty) && ((decide (r118.2.1 = 0)) && true))))) (runs_eq (b := !((r118.1 == ByteArray.empty) && ((decide (r118.2.1 = 0)) && true))) (by kernel_rfl)) ?_
    refine zD (hK134 _ _ ?_)
    refine W.cond (!((r118.1 == ByteArray.empty) && ((decide (r118.2.1 = 0)) && true))) (by kernel_rfl) (fun h135 => ?_) (fun h135 => ?_)
    rotate_left
    ·
     have h135p : r118.1 = ByteArray.empty ∧ r118.2.1 = 0 := by simpa using (bnot_false h135)
     replace hm := ite_yes hm h135p
     refine W.skip ?_
     refine normal_block ?_
     have hs136 := St.f8 hs130
     have hs137 := St.f8 hs136
     have hs138 := St.f8 hs137
     have hs139 := St.f8 hs138
     have hs140 := St.f5 hs139
     have hs141 := St.f6 hs140
     have hs142 := St.f8 hs141
     have hs143 := St.f8 hs142
     have hs144 := St.tk8 hs143
     rw [hc41] at hm
     exact ⟨(q44, m42, m43), hm, hs144⟩
    have h135p : ¬ (r118.1 = ByteArray.empty ∧ r118.2.1 = 0) := by simpa using (bnot_true h135)
    replace hm := ite_no hm h135p
    refine W.region ?_
    refine zL ⟨b7, 0, none⟩ (.slice m42 q44.length m43) (hs130.cellAt 7 rfl rfl) ?_
    refine zG ⟨b127, 0, none⟩ [(.string r118.1), (zi r118.2.1)] (cells_sub (hs130.heapAt 0 rfl) rfl) ?_
    refine ops_new (fun b => .slice (some ⟨b, 0, none⟩) 1 1) (.cells [(.string r118.1), (zi r118.2.1)].toArray 33 (0, 0)) hs130 (by kernel_rfl) (fun b147 w145 hs146 => ?_)
    have hs148 := St.f7 hs146
    obtain ⟨h153, hm⟩ := need_some hm
    refine ops_appendK kEn (bytes := 24) (a' := (some ⟨b147, 0, none⟩)) (c' := 1) (l := q44) (m := [(⟨r118.1, r118.2.1⟩ : TEn)]) hs148 (by kernel_rfl) (by simp) (cells_blk (hs148.heapAt 1 rfl)) (by unfold maxLen; (try simp only [List.length_cons, List.length_nil]); omega) (by (try simp only [List.length_cons, List.length_nil]); omega) (fun a149 c150 w151 hs152 => ?_)
    have hs156 := St.f8 hs152
    refine zT 0 [(.slice a149 ((q44 ++ [(⟨r118.1, r118.2.1⟩ : TEn)]).length) c150)] [(.slice a149 ((q44 ++ [(⟨r118.1, r118.2.1⟩ : TEn)]).length) c150)] hs156 fun w154 hs157 => ?_
    refine zD ?_
    refine normal_block ?_
    have hs158 := St.f9 hs157
    have hs159 := St.f1 hs158
    have hs160 := St.f2 hs159
    have hs161 := St.f9 hs160
    have hs162 := St.f6 hs161
    have hs163 := St.f7 hs162
    have hs164 := St.f9 hs163
    have hs165 := St.f9 hs164
    have hs166 := St.tk8 hs165
    rw [hc41] at hm
    exact ⟨((q44 ++ [(⟨r118.1, r118.2.1⟩ : TEn)]), a149, c150), hm, hs166⟩
   have h133p : ¬ (r118.2.2 = 0) := of_decide_eq_false (bnot_true h133)
   replace hm := ite_no hm h133p
   refine W.sr fun K167 hK167 => ?_
   refine zR 1 ?_
   have hs170 := St.f7 hs130
   refine zT 0 [(.slice none 0 0)] [(.slice none 0 0)] hs170 fun w168 hs171 => ?_
   have hs174 := St.f5 hs171
   refine zT 0 [(zi r118.2.2)] [(zi r118.2.2)] hs174 fun w172 hs175 => ?_
   refine zD (hK167 _ _ ?_)
   refine W.ret (ret_seq (ret_block ?_))
   have hs176 := St.f8 hs175
   have hs177 := St.f2 hs176
   have hs178 := St.f7 hs177
   have hs179 := St.f5 hs178
   have hs180 := St.f6 hs179
   have hs181 := St.f5 hs180
   have hs182 := St.f7 hs181
   have hs183 := St.tk7 hs182
   exact ⟨rfl, r118.2.2, hm, hs183⟩
  obtain ⟨h15p, hm⟩ := iN hm h15
  refine zC00 hs9 (eopen_dir (gw := gw) (gi := gi) (gb := gb) (n_ := n_) (hv := (hs9.entAt 3 rfl viewA_at)) (hP := h14p) (hK := h15p) B _) fun w184 hs186 => ?_
  refine zR 3 ?_
  refine zN [(.pointer none), (zi 0), (zi 0), (zi 0), (.pointer none)] 97 hs186 fun b189 w187 hs188 => ?_
  refine zT 0 [(.pointer none), (zi 0), (zi 0), (zi 0), (.pointer none)] [(.pointer none), (zi 0), (zi 0), (zi 0), (.pointer none)] hs188 fun w190 hs192 => ?_
  have hs195 := St.f1 hs192
  refine zT 0 [(zi 10)] [(zi 10)] hs195 fun w193 hs196 => ?_
  refine zD (hK13 _ _ ?_)
  refine W.seq fun K197 hK197 => ?_
  refine W.sr fun K198 hK198 => ?_
  refine zL ⟨b10, 0, none⟩ (zi 10) (hs196.cellAt 0 rfl rfl) ?_
  refine zE 1 (hK198 _ _ ?_)
  refine W.cond_true true (by kernel_rfl) rfl ?_
  refine W.seq fun K199 hK199 => ?_
  have hs200 := hs196.drew
  refine W.regionD [(0, 0), (0, 0), (3, 1)] (fun w_ => St B w l0 w_ [zb b10 34 [(zi 10)], zb b189 97 [(.pointer none), (zi 0), (zi 0), (zi 0), (.pointer none)], zb b7 37 [(.slice none 0 0)], zb b4 31 [(zi gw), (zi gi), (zi gb)], viewA (ptr vb) img l]) (by kernel_rfl) hs200 ?_
  refine zB 0 ⟨b10, 0, none⟩ (zi 10) (fun _ hS_ => (hS_.cellAt 0 rfl rfl)) hs200 ?_
  refine any_step 1 (by kernel_rfl) (by kernel_rfl) ?_
  have hs203 := St.f2 hs200
  refine zT 0 [(.slice none 0 0)] [(.slice none 0 0)] hs203 fun w201 hs204 => ?_
  have hs205 := St.f4 hs204
  have hs206 := St.f4 hs205
  have hs207 := St.f2 hs206
  have hs208 := St.f4 hs207
  have hs209 := St.f4 hs208
  refine ops_done (by kernel_rfl) ⟨hs209, ?_⟩
  refine any_step 2 (by kernel_rfl) (by kernel_rfl) ?_
  have hs212 := St.f1 hs204
  refine zT 0 [(zi 10)] [(zi 10)] hs212 fun w210 hs213 => ?_
  have hs214 := St.f4 hs213
  have hs215 := St.f4 hs214
  have hs216 := St.f3 hs215
  have hs217 := St.f4 hs216
  have hs218 := St.f4 hs217
  refine ops_done (by kernel_rfl) ⟨hs218, ?_⟩
  refine any_done (by kernel_rfl) ?_
  refine hK199 _ _ ?_
  refine W.ret (ret_seq ?_)
  have hs219 := St.knil kEn hs213
  obtain rfl := some_inj hm
  have hs220 := St.f5 hs219
  have hs221 := St.f1 hs220
  have hs222 := St.tk2 hs221
  refine ret_of (.tuple #[(.slice none 0 0), (zi 10)]) (resS_of (by kernel_rfl) (resD_two rfl (.cell (ad := ⟨b7, 0, none⟩) (by kernel_rfl) (by kernel_rfl) (hs219.cellAt 2 rfl rfl)) (.cell (ad := ⟨b10, 0, none⟩) (by kernel_rfl) (by kernel_rfl) (hs219.cellAt 1 rfl rfl)))) ⟨_, ⟨none, 0, rfl, rfl⟩, hs222⟩
 obtain ⟨h14p, hm⟩ := iN hm h14
 refine zC00 hs9 (eopen_err (gw := gw) (gi := gi) (gb := gb) (n_ := n_) (hv := (hs9.entAt 3 rfl viewA_at)) (hN := h14p) B _) fun w223 hs225 => ?_
 refine zR 3 ?_
 refine zN [(.pointer none), (zi 0), (zi 0), (zi 0), (.pointer none)] 97 hs225 fun b228 w226 hs227 => ?_
 refine zT 0 [(.pointer none), (zi 0), (zi 0), (zi 0), (.pointer none)] [(.pointer none), (zi 0), (zi 0), (zi 0), (.pointer none)] hs227 fun w229 hs231 => ?_
 have hs234 := St.f1 hs231
 refine zT 0 [(zi ((igetM img l gw gi gb n_).2))] [(zi ((igetM img l gw gi gb n_).2))] hs234 fun w232 hs235 => ?_
 refine zD (hK13 _ _ ?_)
 refine W.seq fun K236 hK236 => ?_
 refine W.sr fun K237 hK237 => ?_
 refine zL ⟨b10, 0, none⟩ (zi ((igetM img l gw gi gb n_).2)) (hs235.cellAt 0 rfl rfl) ?_
 refine zE 1 (hK237 _ _ ?_)
 refine W.cond (!decide ((igetM img l gw gi gb n_).2 = 0)) (by kernel_rfl) (fun h238 => ?_) (fun h238 => ?_)
 rotate_left
 ·
  have h238p : (igetM img l gw gi gb n_).2 = 0 := of_decide_eq_true (bnot_false h238)
  exact absurd h238p h14p
 have h238p : ¬ ((igetM img l gw gi gb n_).2 = 0) := of_decide_eq_false (bnot_true h238)
 replace hm := ite_no hm h238p
 refine W.seq fun K239 hK239 => ?_
 have hs240 := hs235.drew
 refine W.regionD [(0, 0), (0, 0), (3, 1)] (fun w_ => St B w l0 w_ [zb b10 34 [(zi ((igetM img l gw gi gb n_).2))], zb b228 97 [(.pointer none), (zi 0), (zi 0), (zi 0), (.pointer none)], zb b7 37 [(.slice none 0 0)], zb b4 31 [(zi gw), (zi gi), (zi gb)], viewA (ptr vb) img l]) (by kernel_rfl) hs240 ?_
 refine zB 0 ⟨b10, 0, none⟩ (zi ((igetM img l gw gi gb n_).2)) (fun _ hS_ => (hS_.cellAt 0 rfl rfl)) hs240 ?_
 refine any_step 1 (by kernel_rfl) (by kernel_rfl) ?_
 have hs243 := St.f2 hs240
 refine zT 0 [(.slice none 0 0)] [(.slice none 0 0)] hs243 fun w241 hs244 => ?_
 have hs245 := St.f4 hs244
 have hs246 := St.f4 hs245
 have hs247 := St.f2 hs246
 have hs248 := St.f4 hs247
 have hs249 := St.f4 hs248
 refine ops_done (by kernel_rfl) ⟨hs249, ?_⟩
 refine any_step 2 (by kernel_rfl) (by kernel_rfl) ?_
 have hs252 := St.f1 hs244
 refine zT 0 [(zi ((igetM img l gw gi gb n_).2))] [(zi ((igetM img l gw gi gb n_).2))] hs252 fun w250 hs253 => ?_
 have hs254 := St.f4 hs253
 have hs255 := St.f4 hs254
 have hs256 := St.f3 hs255
 have hs257 := St.f4 hs256
 have hs258 := St.f4 hs257
 refine ops_done (by kernel_rfl) ⟨hs258, ?_⟩
 refine any_done (by kernel_rfl) ?_
 refine hK239 _ _ ?_
 refine W.ret (ret_seq ?_)
 have hs259 := St.knil kEn hs253
 obtain rfl := some_inj hm
 have hs260 := St.f5 hs259
 have hs261 := St.f1 hs260
 have hs262 := St.tk2 hs261
 refine ret_of (.tuple #[(.slice none 0 0), (zi ((igetM img l gw gi gb n_).2))]) (resS_of (by kernel_rfl) (resD_two rfl (.cell (ad := ⟨b7, 0, none⟩) (by kernel_rfl) (by kernel_rfl) (hs259.cellAt 2 rfl rfl)) (.cell (ad := ⟨b10, 0, none⟩) (by kernel_rfl) (by kernel_rfl) (hs259.cellAt 1 rfl rfl)))) ⟨_, ⟨none, 0, rfl, rfl⟩, hs262⟩
end Go.Proofs.YtmmclabkkigiaaaGreatDoor

set_option maxRecDepth 20000
set_option maxHeartbeats 8000000
namespace Go.Proofs.YtmmclabkkigiaaaGreatDoor
open Go Go.RowKit
def works15_M  : Option (Bool) :=
 need ((fmtW 1 2 9).length ≤ 17592186044415) <|
(eFind_M (fmtW 1 2 9) ([]) 1 2 9 1 (ByteArray.mk #[97])).bind fun r30 =>
(eAdd_M (fmtW 1 2 9) ([]) 1 2 9 1 (ByteArray.mk #[97]) 1).bind fun r43 =>
(eFind_M (fmtW 1 2 9) r43.2 1 2 9 1 (ByteArray.mk #[97])).bind fun r50 =>
(eAdd_M (fmtW 1 2 9) r43.2 1 2 9 1 (ByteArray.mk #[97]) 1).bind fun r62 =>
(eAdd_M (fmtW 1 2 9) r62.2 1 2 9 1 (ByteArray.mk #[97, 47, 98]) 1).bind fun r69 =>
(eRemove_M (fmtW 1 2 9) r69.2 1 2 9 1 (ByteArray.mk #[97])).bind fun r75 =>
(eList_M (fmtW 1 2 9) r75.2 1 2 9 1).bind fun r81 =>
if r30.2.2.2 = 6 then (if r43.1 = 0 then (if r50.2.2.2 = 0 then (if r50.1 = (ByteArray.mk #[97]) ∧ r50.2.1 = 1 then ((ebegin_M (ByteArray.mk #[97])).bind fun r93 =>
if r50.2.2.1 = r93 then (if r62.1 = 9 then (if r69.1 = 13 then (if r75.1 = 0 then (if r81.2 = 0 then (some (decide ((r81.1.length : Int) = 0))) else (some false)) else (some false)) else (some false)) else (some false)) else (some false)) else (some false)) else (some false)) else (some false)) else (some false)
theorem works15_walk   {r : Bool} (B : Nat) (w : World) (hG : 1 < B) (hT : CellsAt (some ⟨1, 0, none⟩) tab8 w) (hm : works15_M = some r) : Spec Tryz.prog 8 #[] B w [] (fun v H' => v = .bool r ∧ H' = []) := by
 refine spec_Q Tryz.func8 rfl fun hs => ?_
 unfold works15_M at hm
 refine W.sr fun K1 hK1 => ?_
 refine zE 1 (hK1 _ _ ?_)
 refine W.sr fun K2 hK2 => ?_
 refine zR 1 ?_
 refine zN [(zi 0), (zi 0), (zi 0)] 31 hs fun b5 w3 hs4 => ?_
 refine zT 0 [(zi 1), (zi 2), (zi 9)] [(zi 1), (zi 2), (zi 9)] hs4 fun w6 hs8 => ?_
 refine zD (hK2 _ _ ?_)
 refine W.sr fun K9 hK9 => ?_
 refine zG ⟨b5, 0, none⟩ [(zi 1), (zi 2), (zi 9)] (cells_sub (hs8.heapAt 0 rfl) rfl) ?_
 refine ops_call0 hs8 (by kernel_rfl) (format_spec (gw := 1) (gi := 2) (gb := 9) B _) ?_
 rintro _ _ w12 ⟨a10, c11, rfl, rfl⟩ hs13
 have hs14 := St.ap1 hs13
 obtain ⟨h16, hm⟩ := need_some hm
 refine ops_call0 hs14 (by kernel_rfl) (new_spec (hc := (St.kcells kU64 hs14 0 rfl)) (hn := (St.capnil kU64 hs14 0 rfl)) (hsz := h16) B _) ?_
 rintro _ _ w17 ⟨b15, rfl, rfl⟩ hs18
 have hs19 := St.ap1 hs18
 refine zE 1 (hK9 _ _ ?_)
 refine W.seq fun K20 hK20 => ?_
 refine W.sr fun K21 hK21 => ?_
 refine zE 2 (hK21 _ _ ?_)
 refine W.cond_false false (by kernel_rfl) rfl ?_
 refine W.skip ?_
 refine hK20 _ _ ?_
 refine W.sr fun K22 hK22 => ?_
 refine zR 1 ?_
 refine zN [(.string ByteArray.empty), (zi 0)] 33 hs19 fun b25 w23 hs24 => ?_
 refine zT 0 [(.string (ByteArray.mk #[97])), (zi 1)] [(.string (ByteArray.mk #[97])), (zi 1)] hs24 fun w26 hs28 => ?_
 refine zD (hK22 _ _ ?_)
 refine W.sr fun K29 hK29 => ?_
 refine zR 1 ?_
 refine zG ⟨b5, 0, none⟩ [(zi 1), (zi 2), (zi 9)] (cells_sub (hs28.heapAt 3 rfl) rfl) ?_
 obtain ⟨r30, h31, hm⟩ := bind_some hm
 have hs32 := St.f1 hs28
 refine zC11 hs32 (eFind_walk (vb := b15) (gw := 1) (gi := 2) (gb := 9) (n_ := 1) (tx_ := (ByteArray.mk #[97])) (img := (fmtW 1 2 9)) (l := []) (hm := h31) B _) fun w33 hs35 => ?_
 refine zR 4 ?_
 refine zN [(.string ByteArray.empty), (zi 0)] 33 hs35 fun b38 w36 hs37 => ?_
 refine zT 0 [(.string r30.1), (zi r30.2.1)] [(.string r30.1), (zi r30.2.1)] hs37 fun w39 hs41 => ?_
 refine zE 2 (hK29 _ _ ?_)
 refine W.sr fun K42 hK42 => ?_
 refine zR 1 ?_
 refine zG ⟨b5, 0, none⟩ [(zi 1), (zi 2), (zi 9)] (cells_sub (hs41.heapAt 4 rfl) rfl) ?_
 refine zG ⟨b25, 0, none⟩ [(.string (ByteArray.mk #[97])), (zi 1)] (cells_sub (hs41.heapAt 2 rfl) rfl) ?_
 obtain ⟨r43, h44, hm⟩ := bind_some hm
 have hs45 := St.f1 hs41
 refine zC11 hs45 (eAdd_walk (vb := b15) (hG := hG) (hT := (hs41.oldCells hT)) (gw := 1) (gi := 2) (gb := 9) (n_ := 1) (xn_ := (ByteArray.mk #[97])) (xi_ := 1) (img := (fmtW 1 2 9)) (l := []) (hm := h44) B _) fun w46 hs48 => ?_
 refine zE 1 (hK42 _ _ ?_)
 refine W.sr fun K49 hK49 => ?_
 refine zR 1 ?_
 refine zG ⟨b5, 0, none⟩ [(zi 1), (zi 2), (zi 9)] (cells_sub (hs48.heapAt 4 rfl) rfl) ?_
 obtain ⟨r50, h51, hm⟩ := bind_some hm
 refine zC11 hs48 (eFind_walk (vb := b15) (gw := 1) (gi := 2) (gb := 9) (n_ := 1) (tx_ := (ByteArray.mk #[97])) (img := (fmtW 1 2 9)) (l := r43.2) (hm := h51) B _) fun w52 hs54 => ?_
 refine zR 4 ?_
 refine zN [(.string ByteArray.empty), (zi 0)] 33 hs54 fun b57 w55 hs56 => ?_
 refine zT 0 [(.string r50.1), (zi r50.2.1)] [(.string r50.1), (zi r50.2.1)] hs56 fun w58 hs60 => ?_
 refine zE 2 (hK49 _ _ ?_)
 refine W.sr fun K61 hK61 => ?_
 refine zR 1 ?_
 refine zG ⟨b5, 0, none⟩ [(zi 1), (zi 2), (zi 9)] (cells_sub (hs60.heapAt 5 rfl) rfl) ?_
 refine zG ⟨b25, 0, none⟩ [(.string (ByteArray.mk #[97])), (zi 1)] (cells_sub (hs60.heapAt 3 rfl) rfl) ?_
 obtain ⟨r62, h63, hm⟩ := bind_some hm
 have hs64 := St.f1 hs60
 refine zC11 hs64 (eAdd_walk (vb := b15) (hG := hG) (hT := (hs60.oldCells hT)) (gw := 1) (gi := 2) (gb := 9) (n_ := 1) (xn_ := (ByteArray.mk #[97])) (xi_ := 1) (img := (fmtW 1 2 9)) (l := r43.2) (hm := h63) B _) fun w65 hs67 => ?_
 refine zE 1 (hK61 _ _ ?_)
 refine W.sr fun K68 hK68 => ?_
 refine zR 1 ?_
 refine zG ⟨b5, 0, none⟩ [(zi 1), (zi 2), (zi 9)] (cells_sub (hs67.heapAt 5 rfl) rfl) ?_
 refine zR 1 ?_
 obtain ⟨r69, h70, hm⟩ := bind_some hm
 refine zC11 hs67 (eAdd_walk (vb := b15) (hG := hG) (hT := (hs67.oldCells hT)) (gw := 1) (gi := 2) (gb := 9) (n_ := 1) (xn_ := (ByteArray.mk #[97, 47, 98])) (xi_ := 1) (img := (fmtW 1 2 9)) (l := r62.2) (hm := h70) B _) fun w71 hs73 => ?_
 refine zE 1 (hK68 _ _ ?_)
 refine W.sr fun K74 hK74 => ?_
 refine zR 1 ?_
 refine zG ⟨b5, 0, none⟩ [(zi 1), (zi 2), (zi 9)] (cells_sub (hs73.heapAt 5 rfl) rfl) ?_
 obtain ⟨r75, h76, hm⟩ := bind_some hm
 refine zC11 hs73 (eRemove_walk (vb := b15) (gw := 1) (gi := 2) (gb := 9) (n_ := 1) (tx_ := (ByteArray.mk #[97])) (img := (fmtW 1 2 9)) (l := r69.2) (hm := h76) B _) fun w77 hs79 => ?_
 refine zE 1 (hK74 _ _ ?_)
 refine W.sr fun K80 hK80 => ?_
 refine zR 1 ?_
 refine zG ⟨b5, 0, none⟩ [(zi 1), (zi 2), (zi 9)] (cells_sub (hs79.heapAt 5 rfl) rfl) ?_
 obtain ⟨r81, h82, hm⟩ := bind_some hm
 refine ops_call1 hs79 (by kernel_rfl) (eList_walk (vb := b15) (gw := 1) (gi := 2) (gb := 9) (n_ := 1) (img := (fmtW 1 2 9)) (l := r75.2) (hm := h82) B _) ?_
 rintro _ _ w85 ⟨a83, c84, rfl, rfl⟩ hs86
 have hs87 := St.ap2 hs86
 refine zE 5 (hK80 _ _ ?_)
 refine W.sr fun K88 hK88 => ?_
 refine zR 3 ?_
 rcases Bool.eq_false_or_eq_true (decide (r30.2.2.2 = 6)) with h89 | h89
 ·
  obtain ⟨h89p, hm⟩ := iY hm h89
  refine zS 60 h89 ?_
  refine zS 59 h89 ?_
  refine zR 4 ?_
  rcases Bool.eq_false_or_eq_true (decide (r43.1 = 0)) with h90 | h90
  ·
   obtain ⟨h90p, hm⟩ := iY hm h90
   refine zS 64 h90 ?_
   refine zS 62 h90 ?_
   refine zS 63 h90 ?_
   refine zR 4 ?_
   rcases Bool.eq_false_or_eq_true (decide (r50.2.2.2 = 0)) with h91 | h91
   ·
    obtain ⟨h91p, hm⟩ := iY hm h91
    refine zS 68 h91 ?_
    refine zS 66 h91 ?_
    refine zS 67 h91 ?_
    refine zG ⟨b57, 0, none⟩ [(.string r50.1), (zi r50.2.1)] (cells_sub (hs87.heapAt 2 rfl) rfl) ?_
    refine zG ⟨b25, 0, none⟩ [(.string (ByteArray.mk #[97])), (zi 1)] (cells_sub (hs87.heapAt 4 rfl) rfl) ?_
    refine ops_R (v := (.bool ((r50.1 == (ByteArray.mk #[97])) && ((decide (r50.2.1 = 1)) && true)))) (runs_eq (b := ((r50.1 == (ByteArray.mk #[97])) && ((decide (r50.2.1 = 1)) && true))) (by kernel_rfl)) ?_
    refine zR 2 ?_
    rcases Bool.eq_false_or_eq_true ((r50.1 == (ByteArray.mk #[97])) && ((decide (r50.2.1 = 1)) && true)) with h92 | h92
    ·
     have h92p : r50.1 = (ByteArray.mk #[97]) ∧ r50.2.1 = 1 := by simpa using h92
     replace hm := ite_yes hm h92p
     refine zS 73 h92 ?_
     refine zS 71 h92 ?_
     refine zS 72 h92 ?_
     refine zR 1 ?_
     obtain ⟨r93, h94, hm⟩ := bind_some hm
     refine zC00 hs87 (ebegin_walk (tx_ := (ByteArray.mk #[97])) (hm := h94) B _) fun w95 hs97 => ?_
     refine zR 3 ?_
     rcases Bool.eq_false_or_eq_true (decide (r50.2.2.1 = r93)) with h98 | h98
     ·
      obtain ⟨h98p, hm⟩ := iY hm h98
      refine zS 78 h98 ?_
      refine zS 76 h98 ?_
      refine zS 77 h98 ?_
      refine zR 4 ?_
      rcases Bool.eq_false_or_eq_true (decide (r62.1 = 9)) with h99 | h99
      ·
       obtain ⟨h99p, hm⟩ := iY hm h99
       refine zS 82 h99 ?_
       refine zS 80 h99 ?_
       refine zS 81 h99 ?_
       refine zR 4 ?_
       rcases Bool.eq_false_or_eq_true (decide (r69.1 = 13)) with h100 | h100
       ·
        obtain ⟨h100p, hm⟩ := iY hm h100
        refine zS 86 h100 ?_
        refine zS 84 h100 ?_
        refine zS 85 h100 ?_
        refine zR 4 ?_
        rcases Bool.eq_false_or_eq_true (decide (r75.1 = 0)) with h101 | h101
        ·
         obtain ⟨h101p, hm⟩ := iY hm h101
         refine zS 90 h101 ?_
         refine zS 88 h101 ?_
         refine zS 89 h101 ?_
         refine zR 4 ?_
         rcases Bool.eq_false_or_eq_true (decide (r81.2 = 0)) with h102 | h102
         ·
          obtain ⟨h102p, hm⟩ := iY hm h102
          refine zS 94 h102 ?_
          refine zS 92 h102 ?_
          refine zS 93 h102 ?_
          refine zE 5 (hK88 _ _ ?_)
          refine W.ret ?_
          obtain rfl := some_inj hm
          have hs103 := St.tk0 hs97
          refine ret_of (.bool (decide ((r81.1.length : Int) = 0))) (by kernel_rfl) ⟨_, ⟨rfl, rfl⟩, hs103⟩
         obtain ⟨h102p, hm⟩ := iN hm h102
         refine zS 94 h102 ?_
         refine zS 92 h102 ?_
         refine zS 93 h102 ?_
         refine zE 5 (hK88 _ _ ?_)
         refine W.ret ?_
         obtain rfl := some_inj hm
         have hs104 := St.tk0 hs97
         refine ret_of (.bool false) (by kernel_rfl) ⟨_, ⟨rfl, rfl⟩, hs104⟩
        obtain ⟨h101p, hm⟩ := iN hm h101
        refine zS 90 h101 ?_
        refine zS 88 h101 ?_
        refine zS 89 h101 ?_
        refine zE 9 (hK88 _ _ ?_)
        refine W.ret ?_
        obtain rfl := some_inj hm
        have hs105 := St.tk0 hs97
        refine ret_of (.bool false) (by kernel_rfl) ⟨_, ⟨rfl, rfl⟩, hs105⟩
       obtain ⟨h100p, hm⟩ := iN hm h100
       refine zS 86 h100 ?_
       refine zS 84 h100 ?_
       refine zS 85 h100 ?_
       refine zE 13 (hK88 _ _ ?_)
       refine W.ret ?_
       obtain rfl := some_inj hm
       have hs106 := St.tk0 hs97
       refine ret_of (.bool false) (by kernel_rfl) ⟨_, ⟨rfl, rfl⟩, hs106⟩
      obtain ⟨h99p, hm⟩ := iN hm h99
      refine zS 82 h99 ?_
      refine zS 80 h99 ?_
      refine zS 81 h99 ?_
      refine zE 17 (hK88 _ _ ?_)
      refine W.ret ?_
      obtain rfl := some_inj hm
      have hs107 := St.tk0 hs97
      refine ret_of (.bool false) (by kernel_rfl) ⟨_, ⟨rfl, rfl⟩, hs107⟩
     obtain ⟨h98p, hm⟩ := iN hm h98
     refine zS 78 h98 ?_
     refine zS 76 h98 ?_
     refine zS 77 h98 ?_
     refine zE 21 (hK88 _ _ ?_)
     refine W.ret ?_
     obtain rfl := some_inj hm
     have hs108 := St.tk0 hs97
     refine ret_of (.bool false) (by kernel_rfl) ⟨_, ⟨rfl, rfl⟩, hs108⟩
    have h92p : ¬ (r50.1 = (ByteArray.mk #[97]) ∧ r50.2.1 = 1) := by simpa using h92
    replace hm := ite_no hm h92p
    refine zS 73 h92 ?_
    refine zS 71 h92 ?_
    refine zS 72 h92 ?_
    refine zE 26 (hK88 _ _ ?_)
    refine W.ret ?_
    obtain rfl := some_inj hm
    have hs109 := St.tk0 hs87
    refine ret_of (.bool false) (by kernel_rfl) ⟨_, ⟨rfl, rfl⟩, hs109⟩
   obtain ⟨h91p, hm⟩ := iN hm h91
   refine zS 68 h91 ?_
   refine zS 66 h91 ?_
   refine zS 67 h91 ?_
   refine zE 31 (hK88 _ _ ?_)
   refine W.ret ?_
   obtain rfl := some_inj hm
   have hs110 := St.tk0 hs87
   refine ret_of (.bool false) (by kernel_rfl) ⟨_, ⟨rfl, rfl⟩, hs110⟩
  obtain ⟨h90p, hm⟩ := iN hm h90
  refine zS 64 h90 ?_
  refine zS 62 h90 ?_
  refine zS 63 h90 ?_
  refine zE 35 (hK88 _ _ ?_)
  refine W.ret ?_
  obtain rfl := some_inj hm
  have hs111 := St.tk0 hs87
  refine ret_of (.bool false) (by kernel_rfl) ⟨_, ⟨rfl, rfl⟩, hs111⟩
 obtain ⟨h89p, hm⟩ := iN hm h89
 refine zS 60 h89 ?_
 refine zS 59 h89 ?_
 refine zE 39 (hK88 _ _ ?_)
 refine W.ret ?_
 obtain rfl := some_inj hm
 have hs112 := St.tk0 hs87
 refine ret_of (.bool false) (by kernel_rfl) ⟨_, ⟨rfl, rfl⟩, hs112⟩
end Go.Proofs.YtmmclabkkigiaaaGreatDoor

namespace Go.Proofs.YtmmclabkkigiaaaGreatDoor
open Go Go.RowKit
set_option maxRecDepth 100000 in
set_option maxHeartbeats 4000000 in
theorem works15_eq : works15_M = some true := by decide +kernel
end Go.Proofs.YtmmclabkkigiaaaGreatDoor

namespace Go.Proofs.YtmmclabkkigiaaaGreatDoor
open Go Go.RowKit
theorem Ok.got15 {α ρ : Type} {R : ρ → Prop} {x : Option α} {y : α} {f : α → Option ρ} (h : x = Option.some y) (hf : Ok R (f y)) : Ok R (x.bind f) := by
  rw [h]; exact hf
theorem rounds_ok {σ ρ : Type} {R : ρ → Prop} {body : Nat → (σ → Option ρ) → σ → Option ρ} {done : σ → Option ρ} (I : Nat → σ → Prop) (n : Nat)
    (step : ∀ (k : Nat) (c : σ → Option ρ) (s : σ), k < n → I k s → (∀ s', I (k + 1) s' → Ok R (c s')) → Ok R (body k c s)) (fin : ∀ s, I n s → Ok R (done s)) :
    ∀ (t k : Nat) (s : σ), k + t = n → I k s → Ok R (rounds body done t k s)
  | 0, k, s, h, hI => by
    obtain rfl : k = n := by omega
    exact fin s hI
  | t + 1, k, s, h, hI => step k _ s (by omega) hI fun s' hI' => rounds_ok I n step fin t (k + 1) s' (by omega) hI'
theorem toList_iff {a b : ByteArray} : (a.toList == b.toList) = true ↔ a = b := by
  rw [ByteArray.toList_eq, ByteArray.toList_eq, beq_iff_eq]
  constructor
  · intro h
    cases a; cases b
    congr 1
    exact Array.toList_inj.1 h
  · rintro rfl; rfl
def mayB (s : ByteArray) : Bool := decide (1 ≤ s.size ∧ s.size ≤ 40 ∧ badB s = false ∧ s ≠ ByteArray.mk #[46] ∧ s ≠ ByteArray.mk #[46, 46])
theorem emay_eq (s : ByteArray) : emay_M s = some (mayB s) := by
  unfold emay_M mayB
  by_cases h1 : (s.size : Int) ≥ 1
  · rw [if_pos h1]
    by_cases h2 : (s.size : Int) ≤ 40
    · rw [if_pos h2]
      refine need_of (by omega) ?_
      cases hb : badB s with
      | true => rw [if_pos rfl, decide_eq_false (by simp)]
      | false =>
        rw [if_neg (by decide)]
        by_cases h3 : s = ByteArray.mk #[46]
        · rw [if_pos (toList_iff.2 h3), decide_eq_false fun q => q.2.2.2.1 h3]
        · rw [if_neg fun q => h3 (toList_iff.1 q)]
          congr 1
          by_cases h4 : s = ByteArray.mk #[46, 46]
          · rw [decide_eq_false fun q => q.2.2.2.2 h4, toList_iff.2 h4]
            rfl
          · rw [decide_eq_true ⟨by omega, by omega, rfl, h3, h4⟩]
            have : (s.toList == (ByteArray.mk #[46, 46]).toList) = false := by
              cases hq : (s.toList == (ByteArray.mk #[46, 46]).toList) with
              | false => rfl
              | true => exact absurd (toList_iff.1 hq) h4
            rw [this]
            rfl
    · rw [if_neg h2, decide_eq_false fun q => h2 (by omega)]
  · rw [if_neg h1, decide_eq_false fun q => h1 (by omega)]
theorem mayB_iff {s : ByteArray} : mayB s = true ↔ 1 ≤ s.size ∧ s.size ≤ 40 ∧ badB s = false ∧ s ≠ ByteArray.mk #[46] ∧ s ≠ ByteArray.mk #[46, 46] := by
  unfold mayB
  exact decide_eq_true_iff
theorem num_range (s : ByteArray) (j : Nat) : 0 ≤ (strNums s).getD j 0 ∧ (strNums s).getD j 0 ≤ 255 := by
  unfold strNums
  simp only [List.getD, List.getElem?_map]
  cases s.data.toList[j]? with
  | none => simp
  | some b =>
    have := b.toNat_lt
    simp only [Option.map_some, Option.getD_some]
    omega
theorem opack_any (s : ByteArray) (hs : s.size ≤ 1000) : Ok (fun ws : List Int => ws.length = (s.size + 7) / 8) (opack_M s) := by
  unfold opack_M
  refine Ok.need (by omega) ?_
  refine rounds_ok (fun k (q : List Int) => q.length = k) ((s.size + 7) / 8) (fun k c q hk hq ih => ?_) (fun q hq => Ok.some hq) _ _ _ (by omega) rfl
  unfold opack_R27
  refine rounds_ok (fun _ _ => True) (partN s.size k) (fun k2 c2 p hk2 _ ih2 => ?_) (fun p _ => ?_) _ _ _ (by omega) trivial
  · unfold opack_R108
    refine Ok.name fun z hz => Ok.need ?_ (ih2 _ trivial)
    have e : ((strNums s).drop (8 * k)).getD (partN s.size k - 1 - k2) 0 = (strNums s).getD (8 * k + (partN s.size k - 1 - k2)) 0 := by
      simp only [List.getD, List.getElem?_drop]
    have := num_range s (8 * k + (partN s.size k - 1 - k2))
    omega
  · unfold opack_D108 opack_J3
    exact Ok.need (by omega) (ih _ (by rw [List.length_append, hq]; rfl))
theorem sumof_any (ws : List Int) (hs : ws.length ≤ 1000) : Ok (fun r => 0 ≤ r ∧ r ≤ 18446744073709551615) (sumof_M ws) := by
  unfold sumof_M
  refine Ok.need (by omega) ?_
  refine rounds_ok (fun _ (r : Int) => 0 ≤ r ∧ r ≤ 18446744073709551615) ws.length (fun k c r hk hr ih => ?_) (fun r hr => ?_) _ _ _ (by omega) (by omega)
  · unfold sumof_R29 sumadd_M
    exact ih _ (by omega)
  · unfold sumof_D29 sumnow_M
    exact Ok.some hr
theorem ebegin_any (s : ByteArray) : (mayB s = false ∧ ebegin_M s = some 0) ∨ (mayB s = true ∧ ∃ ws r, opack_M s = some ws ∧ sumof_M ws = some r ∧ (0 ≤ r ∧ r ≤ 18446744073709551615) ∧ ebegin_M s = some (r % 12)) := by
  cases hm : mayB s with
  | false =>
    refine .inl ⟨rfl, ?_⟩
    unfold ebegin_M
    refine bind_of (emay_eq s) ?_
    rw [hm]
    rfl
  | true =>
    refine .inr ⟨rfl, ?_⟩
    have h1 := mayB_iff.1 hm
    obtain ⟨ws, e1, e2⟩ := opack_any s (by omega)
    obtain ⟨r, e3, e4⟩ := sumof_any ws (by omega)
    have et : r.tmod 12 = r % 12 := Int.tmod_eq_emod_of_nonneg e4.1
    refine ⟨ws, r, e1, e3, e4, ?_⟩
    unfold ebegin_M
    refine bind_of (emay_eq s) ?_
    rw [hm, if_pos rfl]
    refine bind_of e1 (bind_of e3 ?_)
    rw [et]
    exact need_of (by omega) rfl
theorem works15_stop : Ok (· = true) ((works15_M).bind fun r => some r) := by
  rw [works15_eq]
  exact Ok.some rfl
end Go.Proofs.YtmmclabkkigiaaaGreatDoor

namespace Go.Proofs.YtmmclabkkigiaaaGreatDoor
open Go Go.RowKit
def bytesF (ws : List Int) (n : Nat) : List Int := (List.range n).map fun (j : Nat) => shrK .u64 (ws.getD (j / 8) 0) (8 * ((j % 8 : Nat) : Int)) % 256
theorem bytesF_succ (ws : List Int) (n : Nat) : bytesF ws (n + 1) = bytesF ws n ++ [shrK .u64 (ws.getD (n / 8) 0) (8 * ((n % 8 : Nat) : Int)) % 256] := by
  unfold bytesF
  rw [List.range_succ, List.map_append]
  rfl
theorem bytesF_len (ws : List Int) (n : Nat) : (bytesF ws n).length = n := by unfold bytesF; simp
theorem quo8 {p : Int} (h : 0 ≤ p) : p.tdiv 8 = p / 8 := Int.tdiv_eq_ediv_of_nonneg h
theorem rem8 {p : Int} (h : 0 ≤ p) : p.tmod 8 = p % 8 := Int.tmod_eq_emod_of_nonneg h
theorem unpack_eq {ws : List Int} {n : Int} (h0 : 0 ≤ n) (hn : n ≤ 8 * (ws.length : Int)) (hl : ws.length ≤ 1000) : unpack_M ws n = some (strOfNums (bytesF ws n.toNat), 0) := by
  unfold unpack_M
  rw [if_neg (by omega), need, if_pos (by omega), if_neg (by omega), need, if_pos (by omega)]
  refine iter_run (fun s => 0 ≤ s.2 ∧ s.2 ≤ n ∧ s.1.length = n.toNat ∧ s.1.take s.2.toNat = bytesF ws s.2.toNat) (fun s => (n - s.2).toNat) ?_ _ _ ⟨by simp, by simp; omega, by simp, rfl⟩ (fuel_lt (by simp only; omega))
  rintro k ⟨q, p⟩ ⟨h1, h2, h3, h4⟩ ih
  simp only at h1 h2 h3 h4 ih
  unfold unpack_B0
  simp only
  by_cases h : p < n
  · rw [if_pos (by omega), quo8 h1, rem8 h1]
    refine need_of (by omega) (need_of (by omega) (need_of (by omega) (need_of (by omega) (need_of (by omega) (need_of (by omega) (need_of (by omega) (ih _ ⟨by simp only; omega, by simp only; omega, by simp only [List.length_set]; exact h3, ?_⟩ (by simp only; omega))))))))
    simp only
    rw [show (p + 1).toNat = p.toNat + 1 by omega, bytesF_succ, ← h4, show (p / 8).toNat = p.toNat / 8 by omega, show ((p.toNat % 8 : Nat) : Int) = p % 8 by omega]
    have hlt : p.toNat < q.length := by omega
    rw [List.take_add_one, List.take_set_of_le (Nat.le_refl _)]
    simp [hlt]
  · rw [if_neg (by omega)]
    refine need_of (by omega) ?_
    have e : p = n := by omega
    subst e
    rw [List.take_of_length_le (by omega)] at h4
    rw [h4]
def valB : List Int → Int
  | [] => 0
  | b :: bs => b + 256 * valB bs
def Byt (xs : List Int) : Prop := ∀ x ∈ xs, 0 ≤ x ∧ x < 256
theorem Byt.nil : Byt [] := by intro x hx; simp at hx
theorem Byt.cons {x : Int} {xs : List Int} (h : Byt (x :: xs)) : (0 ≤ x ∧ x < 256) ∧ Byt xs := ⟨h x (by simp), fun y hy => h y (by simp [hy])⟩
theorem Byt.drop {xs : List Int} (h : Byt xs) (n : Nat) : Byt (xs.drop n) := fun x hx => h x (List.mem_of_mem_drop hx)
theorem Byt.take {xs : List Int} (h : Byt xs) (n : Nat) : Byt (xs.take n) := fun x hx => h x (List.mem_of_mem_take hx)
theorem byt_str (s : ByteArray) : Byt (strNums s) := by
  intro x hx
  unfold strNums at hx
  obtain ⟨b, _, rfl⟩ := List.mem_map.1 hx
  have := b.toNat_lt
  omega
theorem Byt.getD {xs : List Int} (h : Byt xs) (k : Nat) : 0 ≤ xs.getD k 0 ∧ xs.getD k 0 < 256 := by
  rw [List.getD_eq_getElem?_getD]
  rcases Nat.lt_or_ge k xs.length with hk | hk
  · rw [List.getElem?_eq_getElem hk]; exact h _ (List.getElem_mem hk)
  · rw [List.getElem?_eq_none hk]; simp
theorem valB_range : ∀ {xs : List Int}, Byt xs → 0 ≤ valB xs ∧ valB xs < 256 ^ xs.length
  | [], _ => by simp [valB]
  | x :: xs, h => by
    have h1 := h.cons.1
    have h2 := valB_range h.cons.2
    simp only [valB, List.length_cons, Int.pow_succ]
    omega
theorem pow256 {n : Nat} (h : n ≤ 8) : (256 : Int) ^ n ≤ 18446744073709551616 := by
  have : n = 0 ∨ n = 1 ∨ n = 2 ∨ n = 3 ∨ n = 4 ∨ n = 5 ∨ n = 6 ∨ n = 7 ∨ n = 8 := by omega
  rcases this with rfl | rfl | rfl | rfl | rfl | rfl | rfl | rfl | rfl <;> decide
theorem valB_u64 {xs : List Int} (h : Byt xs) (hl : xs.length ≤ 8) : U64 (valB xs) := by
  have := valB_range h
  have := pow256 hl
  unfold U64; omega
theorem valB_snoc : ∀ (xs : List Int) (b : Int), valB (xs ++ [b]) = valB xs + b * 256 ^ xs.length
  | [], b => by simp [valB]
  | x :: xs, b => by
    simp only [List.cons_append, valB, valB_snoc xs b, List.length_cons, Int.pow_succ]
    rw [Int.mul_add, ← Int.mul_assoc, Int.mul_comm 256 b, Int.mul_assoc b 256, Int.mul_comm 256 (256 ^ xs.length)]
    omega
theorem pow8 {j : Nat} (h : j < 8) : (2 : Int) ^ (min (8 * (j : Int)).toNat 64) = 256 ^ j := by
  have : j = 0 ∨ j = 1 ∨ j = 2 ∨ j = 3 ∨ j = 4 ∨ j = 5 ∨ j = 6 ∨ j = 7 := by omega
  rcases this with rfl | rfl | rfl | rfl | rfl | rfl | rfl | rfl <;> decide
theorem shl_bytes {b : Int} {j : Nat} (hb : 0 ≤ b ∧ b < 256) (h : j < 8) : shlK .u64 b (8 * (j : Int)) = b * 256 ^ j := by
  unfold shlK
  show IntKind.u64.wrap (b * 2 ^ (min (8 * (j : Int)).toNat 64)) = _
  rw [pow8 h]
  have : j = 0 ∨ j = 1 ∨ j = 2 ∨ j = 3 ∨ j = 4 ∨ j = 5 ∨ j = 6 ∨ j = 7 := by omega
  rcases this with rfl | rfl | rfl | rfl | rfl | rfl | rfl | rfl <;> exact wrap_u64 (by omega) (by omega)
def packF (s : ByteArray) : List Int := (List.range ((s.size + 7) / 8)).map fun (q : Nat) => valB (((strNums s).drop (8 * q)).take 8)
theorem packF_len (s : ByteArray) : (packF s).length = (s.size + 7) / 8 := by unfold packF; simp
theorem packF_get (s : ByteArray) {q : Nat} (h : q < (s.size + 7) / 8) : (packF s).getD q 0 = valB (((strNums s).drop (8 * q)).take 8) := by
  unfold packF
  simp [List.getD, h]
theorem packF_u64 (s : ByteArray) : ∀ x ∈ packF s, U64 x := by
  intro x hx
  unfold packF at hx
  obtain ⟨q, _, rfl⟩ := List.mem_map.1 hx
  exact valB_u64 (((byt_str s).drop _).take _) (by simp; omega)
variable {img : List Int} {l : List (Int × Int)}
theorem or_byte {n b : Int} (hn : 0 ≤ n ∧ n < 72057594037927936) (hb : 0 ≤ b ∧ b < 256) : bits .or .u64 (shlK .u64 n 8) b = b + 256 * n := by
  have e : shlK .u64 n 8 = 256 * n := by
    unfold shlK
    show IntKind.u64.wrap (n * 2 ^ (min (8 : Int).toNat 64)) = _
    rw [show (2 : Int) ^ (min (8 : Int).toNat 64) = 256 by decide, wrap_u64 (by omega) (by omega)]
    omega
  rw [e]
  have hx : U64 (256 * n) := by unfold U64; omega
  have hy : U64 b := by unfold U64; omega
  refine bitI_ext (bits_u64 hx hy) (by unfold U64; omega) fun j _ => ?_
  rw [bitI_or hx hy]
  unfold bitI
  obtain ⟨a, rfl⟩ := Int.eq_ofNat_of_zero_le hn.1
  obtain ⟨c, rfl⟩ := Int.eq_ofNat_of_zero_le hb.1
  rw [show (256 * (a : Int)).toNat = a <<< 8 by rw [Nat.shiftLeft_eq]; omega, show ((c : Int) + 256 * (a : Int)).toNat = a <<< 8 + c by rw [Nat.shiftLeft_eq]; omega,
    Nat.shiftLeft_add_eq_or_of_lt (show c < 2 ^ 8 by omega), Nat.testBit_or, Int.toNat_natCast]
theorem opack_eq {s : ByteArray} (hs : s.size ≤ 1000000) : opack_M s = some (packF s) := by
  unfold opack_M
  refine need_of hs ?_
  have hlen := strNums_len s
  have inner : ∀ (k : Nat) (c : List Int → Option (List Int)) (q : List Int), 8 * k < s.size → ∀ (m j : Nat), j + m = partN s.size k →
      rounds (fun k_ c_ s_ => opack_R108 s k k_ c_ s_) (fun s_ => opack_D108 c q s_) m j (valB ((((strNums s).drop (8 * k)).take (partN s.size k)).drop (partN s.size k - j))) =
      opack_D108 c q (valB (((strNums s).drop (8 * k)).take (partN s.size k))) := by
    intro k c q hk m
    have hp := part_pos hk
    have hb : Byt (((strNums s).drop (8 * k)).take (partN s.size k)) := ((byt_str s).drop _).take _
    have hl : (((strNums s).drop (8 * k)).take (partN s.size k)).length = partN s.size k := by simp only [List.length_take, List.length_drop, hlen]; omega
    induction m with
    | zero =>
      intro j hj
      rw [show partN s.size k - j = 0 by omega, List.drop_zero]
      rfl
    | succ m ih =>
      intro j hj
      show opack_R108 s k j _ _ = _
      unfold opack_R108
      simp only [Option.bind]
      have e1 : ((strNums s).drop (8 * k)).getD (partN s.size k - 1 - j) 0 = (((strNums s).drop (8 * k)).take (partN s.size k)).getD (partN s.size k - 1 - j) 0 := by
        simp only [List.getD_eq_getElem?_getD, List.getElem?_take]
        rw [if_pos (by omega)]
      rw [e1]
      generalize hX : ((strNums s).drop (8 * k)).take (partN s.size k) = X at *
      have hg := hb.getD (partN s.size k - 1 - j)
      refine need_of (by omega) ?_
      have hr := valB_range (hb.drop (partN s.size k - j))
      have hlt : (X.drop (partN s.size k - j)).length = j := by rw [List.length_drop]; omega
      rw [hlt] at hr
      have h7 : (256 : Int) ^ j ≤ 72057594037927936 := by
        have : j = 0 ∨ j = 1 ∨ j = 2 ∨ j = 3 ∨ j = 4 ∨ j = 5 ∨ j = 6 ∨ j = 7 := by omega
        rcases this with rfl | rfl | rfl | rfl | rfl | rfl | rfl | rfl <;> decide
      rw [or_byte (by omega) hg]
      have e2 : X.drop (partN s.size k - (j + 1)) = X.getD (partN s.size k - 1 - j) 0 :: X.drop (partN s.size k - j) := by
        have hlt2 : partN s.size k - (j + 1) < X.length := by omega
        rw [List.drop_eq_getElem_cons hlt2, show partN s.size k - (j + 1) + 1 = partN s.size k - j by omega, show partN s.size k - 1 - j = partN s.size k - (j + 1) by omega]
        simp [List.getD, hlt2]
      have := ih (j + 1) (by omega)
      rw [e2, valB] at this
      exact this
  have outer : ∀ (m k : Nat), k + m = (s.size + 7) / 8 → rounds (fun k_ c_ s_ => opack_R27 s k_ c_ s_) (fun s_ => opack_D27 s_) m k ((packF s).take k) = some (packF s) := by
    intro m
    have hpl := packF_len s
    induction m with
    | zero =>
      intro k hk
      rw [List.take_of_length_le (by omega)]
      rfl
    | succ m ih =>
      intro k hk
      have h8 : 8 * k < s.size := by omega
      have := inner k (rounds (fun k_ c_ s_ => opack_R27 s k_ c_ s_) (fun s_ => opack_D27 s_) m (k + 1)) ((packF s).take k) h8 (partN s.size k) 0 (by omega)
      rw [Nat.sub_zero, List.drop_of_length_le (by simp only [List.length_take]; omega)] at this
      refine Eq.trans (show _ = opack_D108 (rounds (fun k_ c_ s_ => opack_R27 s k_ c_ s_) (fun s_ => opack_D27 s_) m (k + 1)) ((packF s).take k) (valB (((strNums s).drop (8 * k)).take (partN s.size k))) from this) ?_
      unfold opack_D108 opack_J3
      refine need_of (by simp only [List.length_take]; omega) ?_
      have e : (packF s).take k ++ [valB (((strNums s).drop (8 * k)).take (partN s.size k))] = (packF s).take (k + 1) := by
        rw [take_snoc 0 (by omega), packF_get s (by omega)]
        congr 3
        unfold partN
        split
        · rw [List.take_of_length_le (by simp only [List.length_drop]; omega), List.take_of_length_le (by simp only [List.length_drop]; omega)]
        · rfl
      rw [e]
      exact ih (k + 1) (by omega)
  exact outer _ 0 (by omega)
end Go.Proofs.YtmmclabkkigiaaaGreatDoor

set_option maxRecDepth 20000
set_option maxHeartbeats 1000000
namespace Go.Proofs.YtmmclabkkigiaaaGreatDoor
open Go Go.RowKit
def rmay15_B0 (tx_ : ByteArray) (k15 : Int → Option (Bool)) (p14 : Int) : Option (Bool) :=
 if p14 < (tx_.size : Int) then (need (0 ≤ p14 ∧ p14 < (tx_.size : Int)) <|
if (sbyte tx_ p14) = 0 then (some false) else (need (0 ≤ p14 ∧ p14 < (tx_.size : Int)) <|
if (sbyte tx_ p14) = 47 then (some false) else (need (-9223372036854775808 ≤ (p14 + 1) ∧ (p14 + 1) ≤ 9223372036854775807) <|
k15 (p14 + 1)))) else (some true)
def rmay15_M (tx_ : ByteArray) : Option (Bool) :=
 if (tx_.size : Int) < 1 then (some false) else (if (tx_.size : Int) > 40 then (some false) else (if (tx_.toList == (ByteArray.mk #[46]).toList) = true then (some false) else (if (tx_.toList == (ByteArray.mk #[46, 46]).toList) = true then (some false) else (iter (fun k_ s_ => rmay15_B0 tx_ k_ s_) FUEL 0))))
theorem rmay15_walk {tx_ : ByteArray}  {r : Bool} (B : Nat) (w : World) (hm : rmay15_M tx_ = some r) : Spec Tryz.prog 26 #[(.string tx_)] B w [] (fun v H' => v = .bool r ∧ H' = []) := by
 refine spec_Q Tryz.func26 rfl fun hs => ?_
 unfold rmay15_M at hm
 refine W.sr fun K1 hK1 => ?_
 refine zE 1 (hK1 _ _ ?_)
 refine W.seq fun K2 hK2 => ?_
 refine W.sr fun K3 hK3 => ?_
 refine zR 4 ?_
 rcases Bool.eq_false_or_eq_true (decide ((tx_.size : Int) < 1)) with h4 | h4
 ·
  obtain ⟨h4p, hm⟩ := iY hm h4
  refine zS 7 h4 ?_
  refine zS 6 h4 ?_
  refine zE 12 (hK3 _ _ ?_)
  refine W.cond_true true (by kernel_rfl) rfl ?_
  refine W.sr fun K5 hK5 => ?_
  refine zE 1 (hK5 _ _ ?_)
  refine W.ret (ret_seq ?_)
  obtain rfl := some_inj hm
  refine ret_of (.bool false) (by kernel_rfl) ⟨_, ⟨rfl, rfl⟩, hs⟩
 obtain ⟨h4p, hm⟩ := iN hm h4
 refine zS 7 h4 ?_
 refine zS 6 h4 ?_
 refine zR 5 ?_
 rcases Bool.eq_false_or_eq_true (decide ((tx_.size : Int) > 40)) with h6 | h6
 ·
  obtain ⟨h6p, hm⟩ := iY hm h6
  refine zS 12 h6 ?_
  refine zS 10 h6 ?_
  refine zS 11 h6 ?_
  refine zE 7 (hK3 _ _ ?_)
  refine W.cond_true true (by kernel_rfl) rfl ?_
  refine W.sr fun K7 hK7 => ?_
  refine zE 1 (hK7 _ _ ?_)
  refine W.ret (ret_seq ?_)
  obtain rfl := some_inj hm
  refine ret_of (.bool false) (by kernel_rfl) ⟨_, ⟨rfl, rfl⟩, hs⟩
 obtain ⟨h6p, hm⟩ := iN hm h6
 refine zS 12 h6 ?_
 refine zS 10 h6 ?_
 refine zS 11 h6 ?_
 refine zR 4 ?_
 rcases Bool.eq_false_or_eq_true (tx_.toList == (ByteArray.mk #[46]).toList) with h8 | h8
 ·
  have h8p : (tx_.toList == (ByteArray.mk #[46]).toList) = true := h8
  replace hm := ite_yes hm h8p
  refine zS 16 h8 ?_
  refine zS 14 h8 ?_
  refine zS 15 h8 ?_
  refine zE 3 (hK3 _ _ ?_)
  refine W.cond_true true (by kernel_rfl) rfl ?_
  refine W.sr fun K9 hK9 => ?_
  refine zE 1 (hK9 _ _ ?_)
  refine W.ret (ret_seq ?_)
  obtain rfl := some_inj hm
  refine ret_of (.bool false) (by kernel_rfl) ⟨_, ⟨rfl, rfl⟩, hs⟩
 have h8p : ¬ ((tx_.toList == (ByteArray.mk #[46]).toList) = true) := ne_true_of_eq_false h8
 replace hm := ite_no hm h8p
 refine zS 16 h8 ?_
 refine zS 14 h8 ?_
 refine zS 15 h8 ?_
 refine zE 3 (hK3 _ _ ?_)
 refine W.cond (tx_.toList == (ByteArray.mk #[46, 46]).toList) (by kernel_rfl) (fun h10 => ?_) (fun h10 => ?_)
 ·
  have h10p : (tx_.toList == (ByteArray.mk #[46, 46]).toList) = true := h10
  replace hm := ite_yes hm h10p
  refine W.sr fun K11 hK11 => ?_
  refine zE 1 (hK11 _ _ ?_)
  refine W.ret (ret_seq ?_)
  obtain rfl := some_inj hm
  refine ret_of (.bool false) (by kernel_rfl) ⟨_, ⟨rfl, rfl⟩, hs⟩
 have h10p : ¬ ((tx_.toList == (ByteArray.mk #[46, 46]).toList) = true) := ne_true_of_eq_false h10
 replace hm := ite_no hm h10p
 refine W.skip ?_
 refine hK2 _ _ ?_
 refine W.seq fun K12 hK12 => ?_
 refine W.sr fun K13 hK13 => ?_
 refine zE 1 (hK13 _ _ ?_)
 refine W.block ?_
 refine W.loop_iter (G := Int) (σ := Int) (fun | p14 => p14) (fun | p14, s_, w_ => (∃ us, s_ = slots 36 [(0, (.string tx_)), (3, (zi p14))] us) ∧ St B w [] w_ []) 0 ⟨slots_intro _ (by kernel_rfl), hs⟩ hm ?_
 rintro k15 ih16 p14 _ w17 ⟨⟨us, rfl⟩, hs18⟩ hm
 replace hm : rmay15_B0 tx_ k15 p14 = some r := hm
 unfold rmay15_B0 at hm
 refine W.seq fun K19 hK19 => ?_
 refine W.sr fun K20 hK20 => ?_
 refine zE 4 (hK20 _ _ ?_)
 refine W.cond (decide (p14 < (tx_.size : Int))) (by kernel_rfl) (fun h21 => ?_) (fun h21 => ?_)
 ·
  obtain ⟨h21p, hm⟩ := iY hm h21
  refine W.skip ?_
  refine hK19 _ _ ?_
  refine W.seq fun K22 hK22 => ?_
  refine W.block ?_
  refine W.sr fun K23 hK23 => ?_
  refine zR 2 ?_
  obtain ⟨h24, hm⟩ := need_some hm
  refine ops_R (v := (.int .u8 (sbyte tx_ p14))) (runs_strIdx (b := tx_) (k := p14) h24 (by kernel_rfl)) ?_
  refine zR 2 ?_
  rcases Bool.eq_false_or_eq_true (decide ((sbyte tx_ p14) = 0)) with h25 | h25
  ·
   obtain ⟨h25p, hm⟩ := iY hm h25
   refine zS 30 h25 ?_
   refine zS 29 h25 ?_
   refine zE 5 (hK23 _ _ ?_)
   refine W.cond_true true (by kernel_rfl) rfl ?_
   refine W.sr fun K26 hK26 => ?_
   refine zE 1 (hK26 _ _ ?_)
   refine W.ret (ret_block (ret_seq (ret_seq (ret_block (ret_seq ?_)))))
   obtain rfl := some_inj hm
   refine ret_of (.bool false) (by kernel_rfl) ⟨_, ⟨rfl, rfl⟩, hs18⟩
  obtain ⟨h25p, hm⟩ := iN hm h25
  refine zS 30 h25 ?_
  refine zS 29 h25 ?_
  refine zR 2 ?_
  obtain ⟨h27, hm⟩ := need_some hm
  refine ops_R (v := (.int .u8 (sbyte tx_ p14))) (runs_strIdx (b := tx_) (k := p14) h27 (by kernel_rfl)) ?_
  refine zE 2 (hK23 _ _ ?_)
  refine W.cond (decide ((sbyte tx_ p14) = 47)) (by kernel_rfl) (fun h28 => ?_) (fun h28 => ?_)
  ·
   obtain ⟨h28p, hm⟩ := iY hm h28
   refine W.sr fun K29 hK29 => ?_
   refine zE 1 (hK29 _ _ ?_)
   refine W.ret (ret_block (ret_seq (ret_seq (ret_block (ret_seq ?_)))))
   obtain rfl := some_inj hm
   refine ret_of (.bool false) (by kernel_rfl) ⟨_, ⟨rfl, rfl⟩, hs18⟩
  obtain ⟨h28p, hm⟩ := iN hm h28
  refine W.skip ?_
  refine normal_block ?_
  refine hK22 _ _ ?_
  refine W.region ?_
  refine zR 1 ?_
  obtain ⟨h30, hm⟩ := need_some hm
  refine zI _ (wrap_i64 h30.1 h30.2) ?_
  refine zE 1 ?_
  refine loopAt_next ?_
  exact ih16 (p14 + 1) _ _ ⟨slots_intro _ (by kernel_rfl), hs18⟩ hm
 obtain ⟨h21p, hm⟩ := iN hm h21
 refine W.exit (exit_seq (exit_seq (exit_here ?_)))
 refine hK12 _ _ ?_
 refine W.sr fun K31 hK31 => ?_
 refine zE 1 (hK31 _ _ ?_)
 refine W.ret ?_
 obtain rfl := some_inj hm
 refine ret_of (.bool true) (by kernel_rfl) ⟨_, ⟨rfl, rfl⟩, hs18⟩
end Go.Proofs.YtmmclabkkigiaaaGreatDoor

set_option maxRecDepth 20000
set_option maxHeartbeats 1000000
namespace Go.Proofs.YtmmclabkkigiaaaGreatDoor
open Go Go.RowKit
def rsum02_B0 (ws : List Int) (k7 : (Int × Int) → Option (Int)) (p5 : Int) (p6 : Int) : Option (Int) :=
 if p6 < (ws.length : Int) then (need (0 ≤ p6 ∧ p6 < (ws.length : Int)) <|
(some (((bits .xor .u64 p5 (ws.getD p6.toNat 0)) * 1099511628211) % 18446744073709551616)).bind fun r17 =>
need (-9223372036854775808 ≤ (p6 + 1) ∧ (p6 + 1) ≤ 9223372036854775807) <|
k7 (r17, (p6 + 1))) else (some p5)
def rsum02_M (ws : List Int) : Option (Int) :=
 iter (fun k_ s_ => rsum02_B0 ws k_ s_.1 s_.2) FUEL (14695981039346656037, 0)
theorem rsum02_walk {ws : List Int} {wa : Option Addr} {wc : Nat} {r : Int} (B : Nat) (w : World) (hw : CellsAt wa (kU64.cells ws) w) (hm : rsum02_M ws = some r) : Spec Tryz.prog 61 #[(.slice wa ws.length wc)] B w [] (fun v H' => v = .int .u64 r ∧ H' = []) := by
 refine spec_Q Tryz.func61 rfl fun hs => ?_
 unfold rsum02_M at hm
 refine W.sr fun K1 hK1 => ?_
 refine zE 1 (hK1 _ _ ?_)
 refine W.sr fun K2 hK2 => ?_
 refine zE 1 (hK2 _ _ ?_)
 refine W.seq fun K3 hK3 => ?_
 refine W.sr fun K4 hK4 => ?_
 refine zE 1 (hK4 _ _ ?_)
 refine W.block ?_
 refine W.loop_iter (G := Int × Int) (σ := Int × Int) (fun | (p5, p6) => (p5, p6)) (fun | (p5, p6), s_, w_ => (∃ us, s_ = slots 19 [(0, (.slice wa ws.length wc)), (3, (zu p5)), (4, (zi p6))] us) ∧ St B w [] w_ []) (14695981039346656037, 0) ⟨slots_intro _ (by kernel_rfl), hs⟩ hm ?_
 rintro k7 ih8 ⟨p5, p6⟩ _ w9 ⟨⟨us, rfl⟩, hs10⟩ hm
 replace hm : rsum02_B0 ws k7 p5 p6 = some r := hm
 unfold rsum02_B0 at hm
 refine W.seq fun K11 hK11 => ?_
 refine W.sr fun K12 hK12 => ?_
 refine zE 4 (hK12 _ _ ?_)
 refine W.cond (decide (p6 < (ws.length : Int))) (by kernel_rfl) (fun h13 => ?_) (fun h13 => ?_)
 ·
  obtain ⟨h13p, hm⟩ := iY hm h13
  refine W.skip ?_
  refine hK11 _ _ ?_
  refine W.seq fun K14 hK14 => ?_
  refine W.block ?_
  refine W.region ?_
  refine zR 3 ?_
  obtain ⟨h16, hm⟩ := need_some hm
  have hk15 := lt_toNat h16
  refine ops_R (runs_index (a := wa) (n := ws.length) (z := p6) (size := 1) p6.toNat (nat_of h16.1) hk15 (kU64.addr (hs10.oldCells hw) hk15) (by kernel_rfl)) ?_
  refine zL ((adr wa (p6.toNat * 1)).add 0) (zu (ws.getD p6.toNat 0)) (kU64.at (hs10.oldCells hw) hk15 0 0 rfl) ?_
  refine zR 1 ?_
  refine ops_val (v := .int .u64 (IntKind.u64.wrap ((bits .xor .u64 p5 (ws.getD p6.toNat 0)) * 1099511628211))) (v' := .int .u64 (((bits .xor .u64 p5 (ws.getD p6.toNat 0)) * 1099511628211) % 18446744073709551616)) (by kernel_rfl) (congrArg (Value.int .u64) (wrap_u64_mod _)) ?_
  refine zR 1 ?_
  obtain ⟨r17, h18, hm⟩ := bind_some hm
  replace h18 := some_inj h18
  refine ops_set 3 (v := .int .u64 r17) (Eq.trans (by kernel_rfl) (congrArg (Value.int .u64) h18)) ?_
  refine zD ?_
  refine normal_block ?_
  refine hK14 _ _ ?_
  refine W.region ?_
  refine zR 1 ?_
  obtain ⟨h19, hm⟩ := need_some hm
  refine zI _ (wrap_i64 h19.1 h19.2) ?_
  refine zE 1 ?_
  refine loopAt_next ?_
  exact ih8 (r17, (p6 + 1)) _ _ ⟨slots_intro _ (by kernel_rfl), hs10⟩ hm
 obtain ⟨h13p, hm⟩ := iN hm h13
 refine W.exit (exit_seq (exit_seq (exit_here ?_)))
 refine hK3 _ _ ?_
 refine W.sr fun K20 hK20 => ?_
 refine zE 2 (hK20 _ _ ?_)
 refine W.ret ?_
 obtain rfl := some_inj hm
 refine ret_of (zu p5) (by kernel_rfl) ⟨_, ⟨rfl, rfl⟩, hs10⟩
end Go.Proofs.YtmmclabkkigiaaaGreatDoor

set_option maxRecDepth 20000
set_option maxHeartbeats 2000000
namespace Go.Proofs.YtmmclabkkigiaaaGreatDoor
open Go Go.RowKit
def rbegin15_M (tx_ : ByteArray) : Option (Int) :=
 (rmay15_M tx_).bind fun r4 =>
if r4 = true then ((rpack_M tx_).bind fun r13 =>
(rsum02_M r13).bind fun r18 =>
need (-9223372036854775808 ≤ (r18.tmod 12) ∧ (r18.tmod 12) ≤ 9223372036854775807) <|
some (r18.tmod 12)) else (some 0)
theorem rbegin15_walk {tx_ : ByteArray}  {r : Int} (B : Nat) (w : World) (hm : rbegin15_M tx_ = some r) : Spec Tryz.prog 27 #[(.string tx_)] B w [] (fun v H' => v = .int .i64 r ∧ H' = []) := by
 refine spec_Q Tryz.func27 rfl fun hs => ?_
 unfold rbegin15_M at hm
 refine W.sr fun K1 hK1 => ?_
 refine zE 1 (hK1 _ _ ?_)
 refine W.seq fun K2 hK2 => ?_
 refine W.sr fun K3 hK3 => ?_
 refine zR 1 ?_
 obtain ⟨r4, h5, hm⟩ := bind_some hm
 refine zC00 hs (rmay15_walk (tx_ := tx_) (hm := h5) B _) fun w6 hs8 => ?_
 refine zE 1 (hK3 _ _ ?_)
 refine W.cond (!r4) (by kernel_rfl) (fun h9 => ?_) (fun h9 => ?_)
 rotate_left
 ·
  have h9p : r4 = true := (bnot_false h9)
  replace hm := ite_yes hm h9p
  refine W.skip ?_
  refine hK2 _ _ ?_
  refine W.sr fun K10 hK10 => ?_
  refine zR 1 ?_
  obtain ⟨r13, h14, hm⟩ := bind_some hm
  refine ops_call0 hs8 (by kernel_rfl) (rpack_walk (hm := h14) B _) ?_
  rintro _ _ w15 ⟨a11, c12, rfl, rfl⟩ hs16
  have hs17 := St.ap1 hs16
  obtain ⟨r18, h19, hm⟩ := bind_some hm
  refine zC00 hs17 (rsum02_walk (ws := r13) (wc := c12) (hw := (St.kcells kU64 hs17 0 rfl)) (hm := h19) B _) fun w20 hs22 => ?_
  refine zR 1 ?_
  obtain ⟨h23, hm⟩ := need_some hm
  refine zI _ (wrap_i64 h23.1 h23.2) ?_
  refine zE 1 (hK10 _ _ ?_)
  refine W.ret ?_
  obtain rfl := some_inj hm
  have hs24 := St.tk0 hs22
  refine ret_of (zi (r18.tmod 12)) (by kernel_rfl) ⟨_, ⟨rfl, rfl⟩, hs24⟩
 have h9p : ¬ (r4 = true) := ne_true_of_eq_false (bnot_true h9)
 replace hm := ite_no hm h9p
 refine W.sr fun K25 hK25 => ?_
 refine zE 1 (hK25 _ _ ?_)
 refine W.ret (ret_seq ?_)
 obtain rfl := some_inj hm
 refine ret_of (zi 0) (by kernel_rfl) ⟨_, ⟨rfl, rfl⟩, hs8⟩
end Go.Proofs.YtmmclabkkigiaaaGreatDoor

namespace Go.Proofs.YtmmclabkkigiaaaGreatDoor
open Go Go.RowKit
theorem getD_setI (l : List Int) (i j : Nat) (a : Int) : (l.set i a).getD j 0 = if i = j ∧ j < l.length then a else l.getD j 0 := by
  simp only [List.getD_eq_getElem?_getD, List.getElem?_set]
  by_cases h : i = j
  · subst h
    by_cases h2 : i < l.length
    · simp [h2]
    · simp [h2]
  · simp [h]
def packN (xs : List Int) : List Int := (List.range ((xs.length + 7) / 8)).map fun (q : Nat) => valB ((xs.drop (8 * q)).take 8)
theorem packN_str (s : ByteArray) : packN (strNums s) = packF s := by unfold packN packF; rw [strNums_len]
theorem packN_len (xs : List Int) : (packN xs).length = (xs.length + 7) / 8 := by unfold packN; simp
theorem packN_get (xs : List Int) {q : Nat} (h : q < (xs.length + 7) / 8) : (packN xs).getD q 0 = valB ((xs.drop (8 * q)).take 8) := by
  unfold packN
  simp [List.getD, h]
def opened8 (xs : List Int) : List Int := if xs.length % 8 = 0 then packN xs ++ [0] else packN xs
theorem opened8_len (xs : List Int) : (opened8 xs).length = (xs.length + 8) / 8 := by
  unfold opened8
  split
  · rw [List.length_append, packN_len]; simp only [List.length_cons, List.length_nil]; omega
  · rw [packN_len]; omega
theorem opened8_last (xs : List Int) : (opened8 xs).getD (xs.length / 8) 0 = valB (xs.drop (8 * (xs.length / 8))) := by
  unfold opened8
  split
  · rename_i h
    rw [List.drop_of_length_le (by omega), List.getD_eq_getElem?_getD, List.getElem?_append_right (by rw [packN_len]; omega), packN_len, show xs.length / 8 - (xs.length + 7) / 8 = 0 by omega]
    rfl
  · rw [packN_get _ (by omega), List.take_of_length_le (by rw [List.length_drop]; omega)]
theorem opened8_get (xs : List Int) {q : Nat} (h : q < xs.length / 8) : (opened8 xs).getD q 0 = valB ((xs.drop (8 * q)).take 8) := by
  unfold opened8
  split
  · rw [List.getD_eq_getElem?_getD, List.getElem?_append_left (by rw [packN_len]; omega), ← List.getD_eq_getElem?_getD, packN_get _ (by omega)]
  · rw [packN_get _ (by omega)]
theorem packN_snoc (xs : List Int) (b : Int) : packN (xs ++ [b]) = (opened8 xs).set (xs.length / 8) ((opened8 xs).getD (xs.length / 8) 0 + b * 256 ^ (xs.length % 8)) := by
  have hl := opened8_len xs
  refine eq_of_getD 0 (by rw [List.length_set, packN_len, hl, List.length_append]; rfl) fun j hj => ?_
  rw [packN_len, List.length_append, List.length_cons, List.length_nil] at hj
  rw [packN_get _ (by rw [List.length_append, List.length_cons, List.length_nil]; exact hj), getD_setI]
  by_cases h : xs.length / 8 = j
  · rw [if_pos ⟨h, by omega⟩, opened8_last, h, List.drop_append_of_le_length (by omega), List.take_of_length_le (by simp only [List.length_append, List.length_drop, List.length_cons, List.length_nil]; omega), valB_snoc, List.length_drop,
      show xs.length - 8 * j = xs.length % 8 by omega]
  · rw [if_neg (by omega), opened8_get _ (by omega), List.drop_append_of_le_length (by omega), List.take_append_of_le_length (by rw [List.length_drop]; omega)]
theorem sbyte_nums (s : ByteArray) {k : Int} (h : 0 ≤ k ∧ k < (s.size : Int)) : sbyte s k = (strNums s).getD k.toNat 0 := by
  have hk : k.toNat < s.size := by omega
  unfold sbyte strNums
  rw [getElem?_pos s k.toNat hk, Option.getD_some]
  have hk2 : k.toNat < s.data.size := hk
  simp only [List.getD_eq_getElem?_getD, List.getElem?_map, Array.getElem?_toList]
  rw [Array.getElem?_eq_getElem hk2]
  rfl
theorem rpack_eq {s : ByteArray} (hs : s.size ≤ 1000000) : rpack_M s = some (packF s) := by
  have hlen := strNums_len s
  unfold rpack_M
  refine iter_run (fun t => t.2.1 = t.1.length ∧ 0 ≤ t.2.2 ∧ t.2.2 ≤ (s.size : Int) ∧ t.1 = packN ((strNums s).take t.2.2.toNat)) (fun t => ((s.size : Int) - t.2.2).toNat) ?_ _ _ ⟨rfl, by simp, by simp, by simp [packN]⟩ (fuel_lt (by simp only; omega))
  rintro k ⟨q, n, p⟩ ⟨h1, h2, h3, h4⟩ ih
  simp only at h1 h2 h3 h4 ih
  subst h1 h4
  unfold rpack_B0
  simp only
  have htl : ((strNums s).take p.toNat).length = p.toNat := by rw [List.length_take]; omega
  by_cases hp : p < (s.size : Int)
  · rw [if_pos hp]
    have J : rpack_J2 s k p (opened8 ((strNums s).take p.toNat)) (opened8 ((strNums s).take p.toNat)).length = some (packF s) := by
      unfold rpack_J2
      have hb := sbyte_range s p
      have hol := opened8_len ((strNums s).take p.toNat)
      rw [htl] at hol
      rw [quo8 h2, rem8 h2]
      iterate 12 refine need_of (by omega) ?_
      refine ih _ ⟨by simp only [List.length_set], by simp only; omega, by simp only; omega, ?_⟩ (by simp only; omega)
      simp only
      have hps := packN_snoc ((strNums s).take p.toNat) ((strNums s).getD p.toNat 0)
      have hlast := opened8_last ((strNums s).take p.toNat)
      rw [← take_snoc 0 (by omega), htl] at hps
      rw [htl] at hlast
      rw [show (p + 1).toNat = p.toNat + 1 by omega, hps, show (p / 8).toNat = p.toNat / 8 by omega, show (8 * (p % 8)) = 8 * ((p.toNat % 8 : Nat) : Int) by omega, sbyte_nums s ⟨h2, hp⟩,
        shl_bytes ((byt_str s).getD _) (by omega)]
      congr 1
      have hby : Byt (((strNums s).take p.toNat).drop (8 * (p.toNat / 8)) ++ [(strNums s).getD p.toNat 0]) := by
        intro x hx
        rcases List.mem_append.1 hx with h | h
        · exact (((byt_str s).take _).drop _) x h
        · simp only [List.mem_singleton] at h
          subst h
          exact (byt_str s).getD _
      have hr := valB_u64 hby (by simp only [List.length_append, List.length_drop, htl, List.length_cons, List.length_nil]; omega)
      rw [valB_snoc, List.length_drop, htl, show p.toNat - 8 * (p.toNat / 8) = p.toNat % 8 by omega] at hr
      rw [hlast]
      unfold U64 at hr
      omega
    by_cases h0 : p.tmod 8 = 0
    · rw [if_pos h0]
      rw [rem8 h2] at h0
      have e : opened8 ((strNums s).take p.toNat) = packN ((strNums s).take p.toNat) ++ [0] := by unfold opened8; rw [if_pos (by omega)]
      rw [e] at J
      have := packN_len ((strNums s).take p.toNat)
      exact need_of (by omega) (need_of (by trivial) J)
    · rw [if_neg h0]
      rw [rem8 h2] at h0
      have e : opened8 ((strNums s).take p.toNat) = packN ((strNums s).take p.toNat) := by unfold opened8; rw [if_neg (by omega)]
      rw [e] at J
      exact J
  · rw [if_neg hp, List.take_of_length_le (by omega), packN_str]
    exact need_of (by trivial) rfl
theorem runpack_eq {ws : List Int} {n : Int} (h0 : 0 ≤ n) (hn : n ≤ 8 * (ws.length : Int)) (hl : ws.length ≤ 1000) : runpack_M ws n = some (strOfNums (bytesF ws n.toNat), 0) := by
  unfold runpack_M
  rw [if_neg (by omega), need, if_pos (by omega), if_neg (by omega)]
  refine iter_run (fun s => 0 ≤ s.2 ∧ s.2 ≤ n ∧ s.1 = bytesF ws s.2.toNat) (fun s => (n - s.2).toNat) ?_ _ _ ⟨by simp, by simp; omega, rfl⟩ (fuel_lt (by simp only; omega))
  rintro k ⟨q, p⟩ ⟨h1, h2, h3⟩ ih
  simp only at h1 h2 h3 ih
  subst h3
  unfold runpack_B0
  simp only
  by_cases h : p < n
  · rw [if_pos h, quo8 h1, rem8 h1, bytesF_len]
    refine need_of (by omega) (need_of (by omega) (need_of (by omega) (need_of (by omega) (need_of (by omega) (need_of (by omega) (need_of (by omega) (ih _ ⟨by simp only; omega, by simp only; omega, ?_⟩ (by simp only; omega))))))))
    simp only
    rw [show (p + 1).toNat = p.toNat + 1 by omega, bytesF_succ, show (p / 8).toNat = p.toNat / 8 by omega, show ((p.toNat % 8 : Nat) : Int) = p % 8 by omega]
  · rw [if_neg h, show p = n by omega]
theorem rmay15_eq (s : ByteArray) : rmay15_M s = some (mayB s) := by
  unfold rmay15_M
  by_cases h1 : (s.size : Int) < 1
  · rw [if_pos h1]
    unfold mayB
    rw [decide_eq_false fun q => by omega]
  rw [if_neg h1]
  by_cases h2 : (s.size : Int) > 40
  · rw [if_pos h2]
    unfold mayB
    rw [decide_eq_false fun q => by omega]
  rw [if_neg h2]
  by_cases h3 : s = ByteArray.mk #[46]
  · rw [if_pos (toList_iff.2 h3)]
    unfold mayB
    rw [decide_eq_false fun q => q.2.2.2.1 h3]
  rw [if_neg fun q => h3 (toList_iff.1 q)]
  by_cases h4 : s = ByteArray.mk #[46, 46]
  · rw [if_pos (toList_iff.2 h4)]
    unfold mayB
    rw [decide_eq_false fun q => q.2.2.2.2 h4]
  rw [if_neg fun q => h4 (toList_iff.1 q)]
  have e : mayB s = !badB s := by
    cases hb : badB s with
    | true => unfold mayB; rw [decide_eq_false fun q => by rw [q.2.2.1] at hb; cases hb]; rfl
    | false => unfold mayB; rw [decide_eq_true ⟨by omega, by omega, hb, h3, h4⟩]; rfl
  rw [e]
  refine iter_run (fun p : Int => 0 ≤ p ∧ p ≤ (s.size : Int) ∧ ∀ j : Nat, j < p.toNat → ¬ ((strNums s).getD j 0 = 47 ∨ (strNums s).getD j 0 = 0)) (fun p => ((s.size : Int) - p).toNat) ?_ _ _ ⟨by omega, by omega, fun j hj => absurd hj (Nat.not_lt_zero _)⟩ (fuel_lt (by omega))
  rintro k p ⟨h5, h6, h7⟩ ih
  unfold rmay15_B0
  by_cases hp : p < (s.size : Int)
  · rw [if_pos hp]
    refine need_of (by omega) ?_
    rw [sbyte_nums s ⟨h5, hp⟩]
    have bad : (strNums s).getD p.toNat 0 = 47 ∨ (strNums s).getD p.toNat 0 = 0 → badB s = true := fun q => badB_iff.2 ⟨p.toNat, by omega, q⟩
    by_cases h0 : (strNums s).getD p.toNat 0 = 0
    · rw [if_pos h0, bad (.inr h0)]; rfl
    rw [if_neg h0]
    refine need_of (by omega) ?_
    by_cases h47 : (strNums s).getD p.toNat 0 = 47
    · rw [if_pos h47, bad (.inl h47)]; rfl
    rw [if_neg h47]
    refine need_of (by omega) (ih _ ⟨by omega, by omega, fun j hj => ?_⟩ (by omega))
    by_cases ej : j = p.toNat
    · rw [ej]; exact fun q => q.elim h47 h0
    · exact h7 j (by omega)
  · rw [if_neg hp]
    cases hb : badB s with
    | false => rfl
    | true =>
      obtain ⟨j, hj, hc⟩ := badB_iff.1 hb
      exact absurd hc (h7 j (by omega))
def sumL : Int → List Int → Int
  | s, [] => s
  | s, x :: xs => sumL ((bits .xor .u64 s x * 1099511628211) % 18446744073709551616) xs
theorem sumof_eq {ws : List Int} (h : ws.length ≤ 1000) : sumof_M ws = some (sumL 14695981039346656037 ws) := by
  unfold sumof_M
  refine need_of (by omega) ?_
  have key : ∀ (t k : Nat) (s : Int), k + t = ws.length → rounds (fun k_ c_ s_ => sumof_R29 ws k_ c_ s_) (fun s_ => sumof_D29 s_) t k s = some (sumL s (ws.drop k)) := by
    intro t
    induction t with
    | zero =>
      intro k s hk
      rw [List.drop_of_length_le (by omega)]
      rfl
    | succ t ih =>
      intro k s hk
      have hlt : k < ws.length := by omega
      have e : ws.drop k = ws.getD k 0 :: ws.drop (k + 1) := by
        rw [List.drop_eq_getElem_cons hlt]
        simp [hlt]
      rw [e, sumL]
      exact ih (k + 1) _ (by omega)
  have := key ws.length 0 14695981039346656037 (by omega)
  rw [List.drop_zero] at this
  exact this
theorem rsum02_eq {ws : List Int} (h : ws.length ≤ 1000) : rsum02_M ws = some (sumL 14695981039346656037 ws) := by
  unfold rsum02_M
  refine iter_run (fun s : Int × Int => 0 ≤ s.2 ∧ s.2 ≤ (ws.length : Int) ∧ sumL s.1 (ws.drop s.2.toNat) = sumL 14695981039346656037 ws) (fun s => ((ws.length : Int) - s.2).toNat) ?_ _ _ ⟨by simp, by simp, rfl⟩ (fuel_lt (by simp only; omega))
  rintro k ⟨s, p⟩ ⟨h1, h2, h3⟩ ih
  simp only at h1 h2 h3 ih
  show rsum02_B0 ws k s p = _
  unfold rsum02_B0
  by_cases hp : p < (ws.length : Int)
  · rw [if_pos hp]
    have hlt : p.toNat < ws.length := by omega
    have e : ws.drop p.toNat = ws.getD p.toNat 0 :: ws.drop (p + 1).toNat := by
      rw [List.drop_eq_getElem_cons hlt, show (p + 1).toNat = p.toNat + 1 by omega]
      simp [hlt]
    rw [e, sumL] at h3
    exact need_of (by omega) (bind_of rfl (need_of (by omega) (ih _ ⟨by simp only; omega, by simp only; omega, h3⟩ (by simp only; omega))))
  · rw [if_neg hp, ← h3, List.drop_of_length_le (by omega)]
    rfl
theorem rbegin15_eq (s : ByteArray) : rbegin15_M s = ebegin_M s := by
  rcases ebegin_any s with ⟨m, b⟩ | ⟨m, ws, r, o, q, hr, b⟩
  · rw [b]
    unfold rbegin15_M
    refine bind_of (rmay15_eq s) ?_
    rw [m]
    rfl
  · rw [b]
    have h1 := mayB_iff.1 m
    have ho := opack_eq (s := s) (by omega)
    have hws : ws = packF s := some_inj (o.symm.trans ho)
    have hl := packF_len s
    subst hws
    rw [sumof_eq (by omega)] at q
    have et : r.tmod 12 = r % 12 := Int.tmod_eq_emod_of_nonneg hr.1
    unfold rbegin15_M
    refine bind_of (rmay15_eq s) ?_
    rw [m, if_pos rfl]
    refine bind_of (rpack_eq (by omega)) (bind_of ((rsum02_eq (by omega)).trans q) ?_)
    rw [et]
    exact need_of (by omega) rfl
theorem ebegin_range (s : ByteArray) : ∃ b : Nat, b < 12 ∧ ebegin_M s = some (b : Int) := by
  rcases ebegin_any s with ⟨m, b⟩ | ⟨m, ws, r, o, q, hr, b⟩
  · exact ⟨0, by omega, b⟩
  · exact ⟨(r % 12).toNat, by omega, by rw [b]; congr 1; omega⟩
end Go.Proofs.YtmmclabkkigiaaaGreatDoor

set_option maxRecDepth 20000
namespace Go.Proofs.YtmmclabkkigiaaaGreatDoor
open Go Go.RowKit
def rmget_M (img : List Int) (l : List (Int × Int)) (at_ : Int) (many : Int) (i_ : Int) : Option (Bool) :=
 if i_ ≥ 0 then (if i_ < many then (need (-9223372036854775808 ≤ (i_.tdiv 64) ∧ (i_.tdiv 64) ≤ 9223372036854775807) <|
need (-9223372036854775808 ≤ (at_ + (i_.tdiv 64)) ∧ (at_ + (i_.tdiv 64)) ≤ 9223372036854775807) <|
need (0 ≤ (i_.tmod 64) ∧ (i_.tmod 64) ≤ 18446744073709551615) <|
need (0 ≤ i_.tmod 64) <|
some (decide ((shrK .u64 (vget img l (at_ + (i_.tdiv 64))) (i_.tmod 64)).tmod 2 = 1))) else (some false)) else (some false)
theorem rmget_walk {img : List Int} {l : List (Int × Int)} {at_ : Int} {many : Int} {i_ : Int} {mb vb : Nat} {r : Bool} (B : Nat) (w : World) (hmb : w.heap[mb]? = some (.cells [(zp vb), (zi at_), (zi many)].toArray 175 (0, 0))) (hv : RefAt (ptr vb) img l w) (hm : rmget_M img l at_ many i_ = some r) : Spec Tryz.prog 126 #[(zp mb), (zi i_)] B w [] (fun v H' => v = .bool r ∧ H' = []) := by
 refine spec_Q Tryz.func126 rfl fun hs => ?_
 unfold rmget_M at hm
 refine W.sr fun K1 hK1 => ?_
 refine zE 1 (hK1 _ _ ?_)
 refine W.seq fun K2 hK2 => ?_
 have hs3 := hs.drew
 refine W.regionD [(0, 0), (1, 1), (2, 2), (4, 4), (4, 4), (20, 20), (36, 36), (68, 68), (140, 140), (260, 260), (516, 512), (1024, 1024), (3072, 3072), (5120, 5120), (9216, 9216), (1024, 1024), (33792, 33792), (66560, 66560), (132096, 132096), (1024, 1024), (525312, 525312), (1311744, 1311744), (2114560, 2114560), (1024, 1024), (8389632, 8389632), (16778240, 16778240), (37749760, 37749760), (67109888, 67109888), (134218752, 134218752), (268436480, 268436480), (1073741823, 536870912)] (fun w_ => St B w [] w_ []) (by kernel_rfl) hs3 ?_
 refine zA (zi i_) 0 hs3 ?_
 refine zA (.bool (decide (i_ ≥ 0))) 1 hs3 ?_
 refine zA (.bool (decide (i_ ≥ 0))) 2 hs3 ?_
 rcases Bool.eq_false_or_eq_true (decide (i_ ≥ 0)) with h4 | h4
 ·
  obtain ⟨h4p, hm⟩ := iY hm h4
  refine any_set 6 (v := .bool true) (eq_bool_of (by kernel_rfl) h4) ?_
  refine any_set 7 (v := .bool true) (eq_bool_of (by kernel_rfl) h4) ?_
  refine zA (zi i_) 3 hs3 ?_
  refine zA (zp mb) 4 hs3 ?_
  refine zA (zp mb) 5 hs3 ?_
  refine zA (.pointer (some ⟨mb, 2, none⟩)) 6 hs3 ?_
  refine zB 7 ⟨mb, 2, none⟩ (zi many) (fun _ hS_ => (cell_of_blk (hS_.old hmb) rfl)) hs3 ?_
  refine zA (.bool (decide (i_ < many))) 8 hs3 ?_
  refine zA (.bool (decide (i_ < many))) 9 hs3 ?_
  refine zA (.bool (decide (i_ < many))) 10 hs3 ?_
  rcases Bool.eq_false_or_eq_true (decide (i_ < many)) with h5 | h5
  ·
   obtain ⟨h5p, hm⟩ := iY hm h5
   refine any_set 13 (v := .bool true) (eq_bool_of (by kernel_rfl) h5) ?_
   refine any_set 14 (v := .bool true) (eq_bool_of (by kernel_rfl) h5) ?_
   refine any_set 15 (v := .bool true) (eq_bool_of (by kernel_rfl) h5) ?_
   refine zA (zp mb) 11 hs3 ?_
   refine zA (zp mb) 12 hs3 ?_
   refine zA (zp mb) 13 hs3 ?_
   refine zB 14 ⟨mb, 0, none⟩ (zp vb) (fun _ hS_ => (cell_of_blk (hS_.old hmb) rfl)) hs3 ?_
   refine zA (zp mb) 15 hs3 ?_
   refine zA (zp mb) 16 hs3 ?_
   refine zA (.pointer (some ⟨mb, 1, none⟩)) 17 hs3 ?_
   refine zB 18 ⟨mb, 1, none⟩ (zi at_) (fun _ hS_ => (cell_of_blk (hS_.old hmb) rfl)) hs3 ?_
   refine zA (zi i_) 19 hs3 ?_
   obtain ⟨h6, hm⟩ := need_some hm
   refine any_R (v := .int .i64 (i_.tdiv 64)) 20 (by kernel_rfl) (fun _ hS_ => runs_quo (k := .i64) (a := i_) (b := 64) (by kernel_rfl) (by decide) (wrap_i64 h6.1 h6.2)) hs3 ?_
   obtain ⟨h7, hm⟩ := need_some hm
   refine any_val (v := .int .i64 (IntKind.i64.wrap (at_ + (i_.tdiv 64)))) (v' := .int .i64 (at_ + (i_.tdiv 64))) 21 (by kernel_rfl) (fun _ => by kernel_rfl) (congrArg (Value.int .i64) (wrap_i64 h7.1 h7.2)) hs3 ?_
   refine zA (zi i_) 23 hs3 ?_
   refine zA (zi (i_.tmod 64)) 24 hs3 ?_
   obtain ⟨h8, hm⟩ := need_some hm
   refine any_val (v := .int .u64 (IntKind.u64.wrap (i_.tmod 64))) (v' := .int .u64 (i_.tmod 64)) 25 (by kernel_rfl) (fun _ => by kernel_rfl) (congrArg (Value.int .u64) (wrap_u64 h8.1 (Int.lt_of_le_of_lt h8.2 (by decide)))) hs3 ?_
   refine any_step 22 (by kernel_rfl) (by kernel_rfl) ?_
   refine zC00 hs3 (rget_spec (at_ := (at_ + (i_.tdiv 64))) (hv := (refAt_old hs3 hv)) B _) fun w9 hs11 => ?_
   refine ops_done (by kernel_rfl) ⟨hs11, ?_⟩
   obtain ⟨h12, hm⟩ := need_some hm
   refine any_R (v := .int .u64 (shrK .u64 (vget img l (at_ + (i_.tdiv 64))) (i_.tmod 64))) 26 (by kernel_rfl) (fun _ hS_ => runs_shift (b := false) (k := .u64) (x := (vget img l (at_ + (i_.tdiv 64)))) (y := i_.tmod 64) (by kernel_rfl) h12) hs11 ?_
   refine zA (zu ((shrK .u64 (vget img l (at_ + (i_.tdiv 64))) (i_.tmod 64)).tmod 2)) 27 hs11 ?_
   refine zA (.bool (decide ((shrK .u64 (vget img l (at_ + (i_.tdiv 64))) (i_.tmod 64)).tmod 2 = 1))) 28 hs11 ?_
   refine zA (.bool (decide ((shrK .u64 (vget img l (at_ + (i_.tdiv 64))) (i_.tmod 64)).tmod 2 = 1))) 29 hs11 ?_
   refine zA (.bool (decide ((shrK .u64 (vget img l (at_ + (i_.tdiv 64))) (i_.tmod 64)).tmod 2 = 1))) 30 hs11 ?_
   refine any_done (by kernel_rfl) ?_
   refine hK2 _ _ ?_
   refine W.ret ?_
   obtain rfl := some_inj hm
   refine ret_of (.bool (decide ((shrK .u64 (vget img l (at_ + (i_.tdiv 64))) (i_.tmod 64)).tmod 2 = 1))) (by kernel_rfl) ⟨_, ⟨rfl, rfl⟩, hs11⟩
  obtain ⟨h5p, hm⟩ := iN hm h5
  refine any_set 13 (v := .bool false) (eq_bool_of (by kernel_rfl) h5) ?_
  refine any_set 14 (v := .bool false) (eq_bool_of (by kernel_rfl) h5) ?_
  refine any_set 15 (v := .bool false) (eq_bool_of (by kernel_rfl) h5) ?_
  refine any_skip 11 (by kernel_rfl) (by kernel_rfl) hs3 ?_
  refine any_skip 12 (by kernel_rfl) (by kernel_rfl) hs3 ?_
  refine any_skip 13 (by kernel_rfl) (by kernel_rfl) hs3 ?_
  refine any_skip 14 (by kernel_rfl) (by kernel_rfl) hs3 ?_
  refine any_skip 15 (by kernel_rfl) (by kernel_rfl) hs3 ?_
  refine any_skip 16 (by kernel_rfl) (by kernel_rfl) hs3 ?_
  refine any_skip 17 (by kernel_rfl) (by kernel_rfl) hs3 ?_
  refine any_skip 18 (by kernel_rfl) (by kernel_rfl) hs3 ?_
  refine any_skip 19 (by kernel_rfl) (by kernel_rfl) hs3 ?_
  refine any_skip 20 (by kernel_rfl) (by kernel_rfl) hs3 ?_
  refine any_skip 21 (by kernel_rfl) (by kernel_rfl) hs3 ?_
  refine any_skip 22 (by kernel_rfl) (by kernel_rfl) hs3 ?_
  refine any_skip 23 (by kernel_rfl) (by kernel_rfl) hs3 ?_
  refine any_skip 24 (by kernel_rfl) (by kernel_rfl) hs3 ?_
  refine any_skip 25 (by kernel_rfl) (by kernel_rfl) hs3 ?_
  refine any_skip 26 (by kernel_rfl) (by kernel_rfl) hs3 ?_
  refine any_skip 27 (by kernel_rfl) (by kernel_rfl) hs3 ?_
  refine any_skip 28 (by kernel_rfl) (by kernel_rfl) hs3 ?_
  refine zA (.bool false) 29 hs3 ?_
  refine zA (.bool false) 30 hs3 ?_
  refine any_done (by kernel_rfl) ?_
  refine hK2 _ _ ?_
  refine W.ret ?_
  obtain rfl := some_inj hm
  refine ret_of (.bool false) (by kernel_rfl) ⟨_, ⟨rfl, rfl⟩, hs3⟩
 obtain ⟨h4p, hm⟩ := iN hm h4
 refine any_set 6 (v := .bool false) (eq_bool_of (by kernel_rfl) h4) ?_
 refine any_set 7 (v := .bool false) (eq_bool_of (by kernel_rfl) h4) ?_
 refine any_skip 3 (by kernel_rfl) (by kernel_rfl) hs3 ?_
 refine any_skip 4 (by kernel_rfl) (by kernel_rfl) hs3 ?_
 refine any_skip 5 (by kernel_rfl) (by kernel_rfl) hs3 ?_
 refine any_skip 6 (by kernel_rfl) (by kernel_rfl) hs3 ?_
 refine any_skip 7 (by kernel_rfl) (by kernel_rfl) hs3 ?_
 refine any_skip 8 (by kernel_rfl) (by kernel_rfl) hs3 ?_
 refine zA (.bool false) 9 hs3 ?_
 refine zA (.bool false) 10 hs3 ?_
 refine any_skip 11 (by kernel_rfl) (by kernel_rfl) hs3 ?_
 refine any_skip 12 (by kernel_rfl) (by kernel_rfl) hs3 ?_
 refine any_skip 13 (by kernel_rfl) (by kernel_rfl) hs3 ?_
 refine any_skip 14 (by kernel_rfl) (by kernel_rfl) hs3 ?_
 refine any_skip 15 (by kernel_rfl) (by kernel_rfl) hs3 ?_
 refine any_skip 16 (by kernel_rfl) (by kernel_rfl) hs3 ?_
 refine any_skip 17 (by kernel_rfl) (by kernel_rfl) hs3 ?_
 refine any_skip 18 (by kernel_rfl) (by kernel_rfl) hs3 ?_
 refine any_skip 19 (by kernel_rfl) (by kernel_rfl) hs3 ?_
 refine any_skip 20 (by kernel_rfl) (by kernel_rfl) hs3 ?_
 refine any_skip 21 (by kernel_rfl) (by kernel_rfl) hs3 ?_
 refine any_skip 22 (by kernel_rfl) (by kernel_rfl) hs3 ?_
 refine any_skip 23 (by kernel_rfl) (by kernel_rfl) hs3 ?_
 refine any_skip 24 (by kernel_rfl) (by kernel_rfl) hs3 ?_
 refine any_skip 25 (by kernel_rfl) (by kernel_rfl) hs3 ?_
 refine any_skip 26 (by kernel_rfl) (by kernel_rfl) hs3 ?_
 refine any_skip 27 (by kernel_rfl) (by kernel_rfl) hs3 ?_
 refine any_skip 28 (by kernel_rfl) (by kernel_rfl) hs3 ?_
 refine zA (.bool false) 29 hs3 ?_
 refine zA (.bool false) 30 hs3 ?_
 refine any_done (by kernel_rfl) ?_
 refine hK2 _ _ ?_
 refine W.ret ?_
 obtain rfl := some_inj hm
 refine ret_of (.bool false) (by kernel_rfl) ⟨_, ⟨rfl, rfl⟩, hs3⟩
def rmset_J1 (img : List Int) (l : List (Int × Int)) (at_ : Int) (i_ : Int) (p20 : Int) : Option (Int × List (Int × Int)) :=
 need (-9223372036854775808 ≤ (i_.tdiv 64) ∧ (i_.tdiv 64) ≤ 9223372036854775807) <|
need (-9223372036854775808 ≤ (at_ + (i_.tdiv 64)) ∧ (at_ + (i_.tdiv 64)) ≤ 9223372036854775807) <|
(some (vput img l (at_ + (i_.tdiv 64)) p20)).bind fun r29 =>
some (r29.1, r29.2)
def rmset_M (img : List Int) (l : List (Int × Int)) (at_ : Int) (many : Int) (i_ : Int) (is_ : Bool) : Option (Int × List (Int × Int)) :=
 if i_ < 0 then (some (8, l)) else (if i_ ≥ many then (some (8, l)) else (need (-9223372036854775808 ≤ (i_.tdiv 64) ∧ (i_.tdiv 64) ≤ 9223372036854775807) <|
need (-9223372036854775808 ≤ (at_ + (i_.tdiv 64)) ∧ (at_ + (i_.tdiv 64)) ≤ 9223372036854775807) <|
need (0 ≤ (i_.tmod 64) ∧ (i_.tmod 64) ≤ 18446744073709551615) <|
need (0 ≤ i_.tmod 64) <|
(some (shlK .u64 1 (i_.tmod 64))).bind fun r18 =>
(rmget_M img l at_ many i_).bind fun r40 =>
if ((is_ = true) ↔ (r40 = true)) then (rmset_J1 img l at_ i_ (vget img l (at_ + (i_.tdiv 64)))) else ((some (bits .xor .u64 (vget img l (at_ + (i_.tdiv 64))) r18)).bind fun r47 =>
rmset_J1 img l at_ i_ r47)))
theorem rmset_walk {img : List Int} {l : List (Int × Int)} {at_ : Int} {many : Int} {i_ : Int} {is_ : Bool} {mb vb : Nat} {r : Int × List (Int × Int)} (B : Nat) (w : World) (hm : rmset_M img l at_ many i_ is_ = some r) : Spec Tryz.prog 142 #[(zp mb), (zi i_), (.bool is_)] B w [zb mb 175 [(zp vb), (zi at_), (zi many)], refA (ptr vb) img l] (fun v H' => v = .int .i64 r.1 ∧ H' = [zb mb 175 [(zp vb), (zi at_), (zi many)], refA (ptr vb) img r.2]) := by
 refine spec_W Tryz.func142 rfl fun l0 hs => ?_
 unfold rmset_M at hm
 refine W.sr fun K1 hK1 => ?_
 refine zE 1 (hK1 _ _ ?_)
 refine W.seq fun K2 hK2 => ?_
 refine W.sr fun K3 hK3 => ?_
 refine zR 3 ?_
 rcases Bool.eq_false_or_eq_true (decide (i_ < 0)) with h4 | h4
 ·
  obtain ⟨h4p, hm⟩ := iY hm h4
  refine zS 11 h4 ?_
  refine zS 10 h4 ?_
  refine zE 7 (hK3 _ _ ?_)
  refine W.cond_true true (by kernel_rfl) rfl ?_
  refine W.sr fun K5 hK5 => ?_
  refine zE 1 (hK5 _ _ ?_)
  refine W.ret (ret_seq ?_)
  obtain rfl := some_inj hm
  refine ret_of (zi 8) (by kernel_rfl) ⟨_, ⟨rfl, rfl⟩, hs⟩
 obtain ⟨h4p, hm⟩ := iN hm h4
 refine zS 11 h4 ?_
 refine zS 10 h4 ?_
 refine zR 4 ?_
 refine zL ⟨mb, 2, none⟩ (zi many) (hs.cellAt 0 rfl rfl) ?_
 refine zE 2 (hK3 _ _ ?_)
 refine W.cond (decide (i_ ≥ many)) (by kernel_rfl) (fun h6 => ?_) (fun h6 => ?_)
 ·
  obtain ⟨h6p, hm⟩ := iY hm h6
  refine W.sr fun K7 hK7 => ?_
  refine zE 1 (hK7 _ _ ?_)
  refine W.ret (ret_seq ?_)
  obtain rfl := some_inj hm
  refine ret_of (zi 8) (by kernel_rfl) ⟨_, ⟨rfl, rfl⟩, hs⟩
 obtain ⟨h6p, hm⟩ := iN hm h6
 refine W.skip ?_
 refine hK2 _ _ ?_
 refine W.seq fun K8 hK8 => ?_
 have hs9 := hs.drew
 refine W.regionD [(0, 0), (1, 1), (2, 2), (4, 4), (0, 0), (16, 16), (32, 32), (64, 64), (0, 0), (256, 256), (640, 640), (1032, 1032), (4095, 2048)] (fun w_ => St B w l0 w_ [zb mb 175 [(zp vb), (zi at_), (zi many)], refA (ptr vb) img l]) (by kernel_rfl) hs9 ?_
 refine zA (zp mb) 0 hs9 ?_
 refine zA (zp mb) 1 hs9 ?_
 refine zA (zp mb) 2 hs9 ?_
 refine zB 3 ⟨mb, 0, none⟩ (zp vb) (fun _ hS_ => (hS_.cellAt 0 rfl rfl)) hs9 ?_
 refine zA (zp mb) 4 hs9 ?_
 refine zA (zp mb) 5 hs9 ?_
 refine zA (.pointer (some ⟨mb, 1, none⟩)) 6 hs9 ?_
 refine zB 7 ⟨mb, 1, none⟩ (zi at_) (fun _ hS_ => (hS_.cellAt 0 rfl rfl)) hs9 ?_
 refine zA (zi i_) 8 hs9 ?_
 obtain ⟨h10, hm⟩ := need_some hm
 refine any_R (v := .int .i64 (i_.tdiv 64)) 9 (by kernel_rfl) (fun _ hS_ => runs_quo (k := .i64) (a := i_) (b := 64) (by kernel_rfl) (by decide) (wrap_i64 h10.1 h10.2)) hs9 ?_
 obtain ⟨h11, hm⟩ := need_some hm
 refine any_val (v := .int .i64 (IntKind.i64.wrap (at_ + (i_.tdiv 64)))) (v' := .int .i64 (at_ + (i_.tdiv 64))) 10 (by kernel_rfl) (fun _ => by kernel_rfl) (congrArg (Value.int .i64) (wrap_i64 h11.1 h11.2)) hs9 ?_
 refine any_step 11 (by kernel_rfl) (by kernel_rfl) ?_
 refine zC00 hs9 (rget_spec (at_ := (at_ + (i_.tdiv 64))) (hv := (hs9.entAt 1 rfl refA_at)) B _) fun w12 hs14 => ?_
 refine ops_done (by kernel_rfl) ⟨hs14, ?_⟩
 refine zA (zu (vget img l (at_ + (i_.tdiv 64)))) 12 hs14 ?_
 refine any_done (by kernel_rfl) ?_
 refine hK8 _ _ ?_
 refine W.sr fun K15 hK15 => ?_
 refine zR 2 ?_
 obtain ⟨h16, hm⟩ := need_some hm
 refine zI _ (wrap_u64 h16.1 (Int.lt_of_le_of_lt h16.2 (by decide))) ?_
 obtain ⟨h17, hm⟩ := need_some hm
 refine ops_R (v := .int .u64 (shlK .u64 1 (i_.tmod 64))) (runs_shift (b := true) (k := .u64) (x := 1) (y := i_.tmod 64) (by kernel_rfl) h17) ?_
 refine zR 1 ?_
 obtain ⟨r18, h19, hm⟩ := bind_some hm
 replace h19 := some_inj h19
 refine ops_set 8 (v := .int .u64 r18) (Eq.trans (by kernel_rfl) (congrArg (Value.int .u64) h19)) ?_
 refine zD (hK15 _ _ ?_)
 refine W.seq_join (fun s_ w_ => ∃ (p20 : Int), (∃ us, s_ = slots 56 [(0, (zp mb)), (1, (zi i_)), (7, (zu p20))] us) ∧ St B w l0 w_ [refA (ptr vb) img l, zb mb 175 [(zp vb), (zi at_), (zi many)]] ∧ rmset_J1 img l at_ i_ p20 = some r) ?_ ?_
 ·
  rintro _ w21 ⟨p20, ⟨us, rfl⟩, hs22, hm⟩
  unfold rmset_J1 at hm
  refine W.seq fun K23 hK23 => ?_
  have hs24 := hs22.drew
  have hs25 := St.f1 hs24
  have hs26 := St.tk1 hs25
  refine W.regionD [(0, 0), (1, 1), (2, 2), (4, 4), (0, 0), (16, 16), (32, 32), (64, 64), (0, 0), (256, 256), (640, 640), (0, 0), (3080, 3080), (8191, 4096)] (fun w_ => St B w l0 w_ [zb mb 175 [(zp vb), (zi at_), (zi many)]]) (by kernel_rfl) hs26 ?_
  refine zA (zp mb) 0 hs26 ?_
  refine zA (zp mb) 1 hs26 ?_
  refine zA (zp mb) 2 hs26 ?_
  refine zB 3 ⟨mb, 0, none⟩ (zp vb) (fun _ hS_ => (hS_.cellAt 0 rfl rfl)) hs26 ?_
  refine zA (zp mb) 4 hs26 ?_
  refine zA (zp mb) 5 hs26 ?_
  refine zA (.pointer (some ⟨mb, 1, none⟩)) 6 hs26 ?_
  refine zB 7 ⟨mb, 1, none⟩ (zi at_) (fun _ hS_ => (hS_.cellAt 0 rfl rfl)) hs26 ?_
  refine zA (zi i_) 8 hs26 ?_
  obtain ⟨h27, hm⟩ := need_some hm
  refine any_R (v := .int .i64 (i_.tdiv 64)) 9 (by kernel_rfl) (fun _ hS_ => runs_quo (k := .i64) (a := i_) (b := 64) (by kernel_rfl) (by decide) (wrap_i64 h27.1 h27.2)) hs26 ?_
  obtain ⟨h28, hm⟩ := need_some hm
  refine any_val (v := .int .i64 (IntKind.i64.wrap (at_ + (i_.tdiv 64)))) (v' := .int .i64 (at_ + (i_.tdiv 64))) 10 (by kernel_rfl) (fun _ => by kernel_rfl) (congrArg (Value.int .i64) (wrap_i64 h28.1 h28.2)) hs26 ?_
  refine zA (zu p20) 11 hs26 ?_
  refine any_step 12 (by kernel_rfl) (by kernel_rfl) ?_
  obtain ⟨r29, h30, hm⟩ := bind_some hm
  replace h30 := some_inj h30
  refine ops_call1 hs24 (by kernel_rfl) (rput_spec (p := (zp vb)) (img := img) (l := l) (at_ := (at_ + (i_.tdiv 64))) (x_ := p20) B _) ?_
  rintro _ _ w33 ⟨hv31, hH32⟩ hs34
  rw [h30] at hv31
  try rw [h30] at hH32
  subst hv31 hH32
  have hs35 := St.ap1 hs34
  have hs36 := St.f1 hs35
  have hs37 := St.tk1 hs36
  refine ops_done (by kernel_rfl) ⟨hs37, ?_⟩
  refine zA (zi r29.1) 13 hs37 ?_
  refine any_done (by kernel_rfl) ?_
  refine hK23 _ _ ?_
  refine W.ret ?_
  obtain rfl := some_inj hm
  have hs38 := St.f1 hs35
  refine ret_of (zi r29.1) (by kernel_rfl) ⟨_, ⟨rfl, rfl⟩, hs38⟩
 refine W.sr fun K39 hK39 => ?_
 refine zR 3 ?_
 obtain ⟨r40, h41, hm⟩ := bind_some hm
 refine zC00 hs14 (rmget_walk (hmb := (hs14.heapAt 0 rfl)) (hv := (hs14.entAt 1 rfl refA_at)) (hm := h41) B _) fun w42 hs44 => ?_
 refine zE 1 (hK39 _ _ ?_)
 refine W.cond (!(is_ == r40)) (by kernel_rfl) (fun h45 => ?_) (fun h45 => ?_)
 rotate_left
 ·
  have h45p : ((is_ = true) ↔ (r40 = true)) := beq_yes Iff.rfl Iff.rfl (bnot_false h45)
  replace hm := ite_yes hm h45p
  refine W.skip ?_
  have hs46 := St.f1 hs44
  exact ⟨(vget img l (at_ + (i_.tdiv 64))), slots_intro _ (by kernel_rfl), hs46, hm⟩
 have h45p : ¬ ((is_ = true) ↔ (r40 = true)) := beq_no Iff.rfl Iff.rfl (bnot_true h45)
 replace hm := ite_no hm h45p
 refine W.region ?_
 refine zR 4 ?_
 obtain ⟨r47, h48, hm⟩ := bind_some hm
 replace h48 := some_inj h48
 refine ops_set 7 (v := .int .u64 r47) (Eq.trans (by kernel_rfl) (congrArg (Value.int .u64) h48)) ?_
 refine zD ?_
 have hs49 := St.f1 hs44
 exact ⟨r47, slots_intro _ (by kernel_rfl), hs49, hm⟩
def rmclear_B0 (img : List Int) (l : List (Int × Int)) (at_ : Int) (many : Int) (k5 : Int → Option (Int × Bool)) (p4 : Int) : Option (Int × Bool) :=
 if p4 < many then ((rmget_M img l at_ many p4).bind fun r14 =>
if r14 = true then (need (-9223372036854775808 ≤ (p4 + 1) ∧ (p4 + 1) ≤ 9223372036854775807) <|
k5 (p4 + 1)) else (some (p4, true))) else (some (0, false))
def rmclear_M (img : List Int) (l : List (Int × Int)) (at_ : Int) (many : Int) : Option (Int × Bool) :=
 iter (fun k_ s_ => rmclear_B0 img l at_ many k_ s_) FUEL 0
theorem rmclear_walk {img : List Int} {l : List (Int × Int)} {at_ : Int} {many : Int} {mb vb : Nat} {r : Int × Bool} (B : Nat) (w : World) (hmb : w.heap[mb]? = some (.cells [(zp vb), (zi at_), (zi many)].toArray 175 (0, 0))) (hv : RefAt (ptr vb) img l w) (hm : rmclear_M img l at_ many = some r) : Spec Tryz.prog 141 #[(zp mb)] B w [] (fun v H' => v = .tuple #[.int .i64 r.1, .bool r.2] ∧ H' = []) := by
 refine spec_Q Tryz.func141 rfl fun hs => ?_
 unfold rmclear_M at hm
 refine W.sr fun K1 hK1 => ?_
 refine zE 2 (hK1 _ _ ?_)
 refine W.seq fun K2 hK2 => ?_
 refine W.sr fun K3 hK3 => ?_
 refine zE 1 (hK3 _ _ ?_)
 refine W.block ?_
 refine W.loop_iter (G := Int) (σ := Int) (fun | p4 => p4) (fun | p4, s_, w_ => (∃ us, s_ = slots 18 [(0, (zp mb)), (4, (zi p4))] us) ∧ St B w [] w_ []) 0 ⟨slots_intro _ (by kernel_rfl), hs⟩ hm ?_
 rintro k5 ih6 p4 _ w7 ⟨⟨us, rfl⟩, hs8⟩ hm
 replace hm : rmclear_B0 img l at_ many k5 p4 = some r := hm
 unfold rmclear_B0 at hm
 refine W.seq fun K9 hK9 => ?_
 refine W.sr fun K10 hK10 => ?_
 refine zR 4 ?_
 refine zL ⟨mb, 2, none⟩ (zi many) (cell_of_blk (hs8.old hmb) rfl) ?_
 refine zE 1 (hK10 _ _ ?_)
 refine W.cond (decide (p4 < many)) (by kernel_rfl) (fun h11 => ?_) (fun h11 => ?_)
 ·
  obtain ⟨h11p, hm⟩ := iY hm h11
  refine W.skip ?_
  refine hK9 _ _ ?_
  refine W.seq fun K12 hK12 => ?_
  refine W.block ?_
  refine W.sr fun K13 hK13 => ?_
  refine zR 2 ?_
  obtain ⟨r14, h15, hm⟩ := bind_some hm
  refine zC00 hs8 (rmget_walk (hmb := (hs8.old hmb)) (hv := (refAt_old hs8 hv)) (hm := h15) B _) fun w16 hs18 => ?_
  refine zE 1 (hK13 _ _ ?_)
  refine W.cond (!r14) (by kernel_rfl) (fun h19 => ?_) (fun h19 => ?_)
  rotate_left
  ·
   have h19p : r14 = true := (bnot_false h19)
   replace hm := ite_yes hm h19p
   refine W.skip ?_
   refine normal_block ?_
   refine hK12 _ _ ?_
   refine W.region ?_
   refine zR 1 ?_
   obtain ⟨h20, hm⟩ := need_some hm
   refine zI _ (wrap_i64 h20.1 h20.2) ?_
   refine zE 1 ?_
   refine loopAt_next ?_
   exact ih6 (p4 + 1) _ _ ⟨slots_intro _ (by kernel_rfl), hs18⟩ hm
  have h19p : ¬ (r14 = true) := ne_true_of_eq_false (bnot_true h19)
  replace hm := ite_no hm h19p
  refine W.sr fun K21 hK21 => ?_
  refine zE 3 (hK21 _ _ ?_)
  refine W.ret (ret_block (ret_seq (ret_seq (ret_block (ret_seq ?_)))))
  obtain rfl := some_inj hm
  refine ret_of (.tuple #[(zi p4), (.bool true)]) (by kernel_rfl) ⟨_, ⟨rfl, rfl⟩, hs18⟩
 obtain ⟨h11p, hm⟩ := iN hm h11
 refine W.exit (exit_seq (exit_seq (exit_here ?_)))
 refine hK2 _ _ ?_
 refine W.sr fun K22 hK22 => ?_
 refine zE 2 (hK22 _ _ ?_)
 refine W.ret ?_
 obtain rfl := some_inj hm
 refine ret_of (.tuple #[(zi 0), (.bool false)]) (by kernel_rfl) ⟨_, ⟨rfl, rfl⟩, hs8⟩
def rmcount_B0 (img : List Int) (l : List (Int × Int)) (at_ : Int) (many : Int) (k7 : (Int × Int) → Option (Int)) (p5 : Int) (p6 : Int) : Option (Int) :=
 if p6 < many then ((rmget_M img l at_ many p6).bind fun r16 =>
if r16 = true then (need (-9223372036854775808 ≤ (p5 + 1) ∧ (p5 + 1) ≤ 9223372036854775807) <|
need (-9223372036854775808 ≤ (p6 + 1) ∧ (p6 + 1) ≤ 9223372036854775807) <|
k7 ((p5 + 1), (p6 + 1))) else (need (-9223372036854775808 ≤ (p6 + 1) ∧ (p6 + 1) ≤ 9223372036854775807) <|
k7 (p5, (p6 + 1)))) else (some p5)
def rmcount_M (img : List Int) (l : List (Int × Int)) (at_ : Int) (many : Int) : Option (Int) :=
 iter (fun k_ s_ => rmcount_B0 img l at_ many k_ s_.1 s_.2) FUEL (0, 0)
theorem rmcount_walk {img : List Int} {l : List (Int × Int)} {at_ : Int} {many : Int} {mb vb : Nat} {r : Int} (B : Nat) (w : World) (hmb : w.heap[mb]? = some (.cells [(zp vb), (zi at_), (zi many)].toArray 175 (0, 0))) (hv : RefAt (ptr vb) img l w) (hm : rmcount_M img l at_ many = some r) : Spec Tryz.prog 100 #[(zp mb)] B w [] (fun v H' => v = .int .i64 r ∧ H' = []) := by
 refine spec_Q Tryz.func100 rfl fun hs => ?_
 unfold rmcount_M at hm
 refine W.sr fun K1 hK1 => ?_
 refine zE 1 (hK1 _ _ ?_)
 refine W.sr fun K2 hK2 => ?_
 refine zE 1 (hK2 _ _ ?_)
 refine W.seq fun K3 hK3 => ?_
 refine W.sr fun K4 hK4 => ?_
 refine zE 1 (hK4 _ _ ?_)
 refine W.block ?_
 refine W.loop_iter (G := Int × Int) (σ := Int × Int) (fun | (p5, p6) => (p5, p6)) (fun | (p5, p6), s_, w_ => (∃ us, s_ = slots 19 [(0, (zp mb)), (3, (zi p5)), (4, (zi p6))] us) ∧ St B w [] w_ []) (0, 0) ⟨slots_intro _ (by kernel_rfl), hs⟩ hm ?_
 rintro k7 ih8 ⟨p5, p6⟩ _ w9 ⟨⟨us, rfl⟩, hs10⟩ hm
 replace hm : rmcount_B0 img l at_ many k7 p5 p6 = some r := hm
 unfold rmcount_B0 at hm
 refine W.seq fun K11 hK11 => ?_
 refine W.sr fun K12 hK12 => ?_
 refine zR 4 ?_
 refine zL ⟨mb, 2, none⟩ (zi many) (cell_of_blk (hs10.old hmb) rfl) ?_
 refine zE 1 (hK12 _ _ ?_)
 refine W.cond (decide (p6 < many)) (by kernel_rfl) (fun h13 => ?_) (fun h13 => ?_)
 ·
  obtain ⟨h13p, hm⟩ := iY hm h13
  refine W.skip ?_
  refine hK11 _ _ ?_
  refine W.seq fun K14 hK14 => ?_
  refine W.block ?_
  refine W.sr fun K15 hK15 => ?_
  refine zR 2 ?_
  obtain ⟨r16, h17, hm⟩ := bind_some hm
  refine zC00 hs10 (rmget_walk (hmb := (hs10.old hmb)) (hv := (refAt_old hs10 hv)) (hm := h17) B _) fun w18 hs20 => ?_
  refine zD (hK15 _ _ ?_)
  refine W.cond r16 (by kernel_rfl) (fun h21 => ?_) (fun h21 => ?_)
  ·
   have h21p : r16 = true := h21
   replace hm := ite_yes hm h21p
   refine W.region ?_
   refine zR 1 ?_
   obtain ⟨h22, hm⟩ := need_some hm
   refine zI _ (wrap_i64 h22.1 h22.2) ?_
   refine zE 1 ?_
   refine normal_block ?_
   refine hK14 _ _ ?_
   refine W.region ?_
   refine zR 1 ?_
   obtain ⟨h23, hm⟩ := need_some hm
   refine zI _ (wrap_i64 h23.1 h23.2) ?_
   refine zE 1 ?_
   refine loopAt_next ?_
   exact ih8 ((p5 + 1), (p6 + 1)) _ _ ⟨slots_intro _ (by kernel_rfl), hs20⟩ hm
  have h21p : ¬ (r16 = true) := ne_true_of_eq_false h21
  replace hm := ite_no hm h21p
  refine W.skip ?_
  refine normal_block ?_
  refine hK14 _ _ ?_
  refine W.region ?_
  refine zR 1 ?_
  obtain ⟨h24, hm⟩ := need_some hm
  refine zI _ (wrap_i64 h24.1 h24.2) ?_
  refine zE 1 ?_
  refine loopAt_next ?_
  exact ih8 (p5, (p6 + 1)) _ _ ⟨slots_intro _ (by kernel_rfl), hs20⟩ hm
 obtain ⟨h13p, hm⟩ := iN hm h13
 refine W.exit (exit_seq (exit_seq (exit_here ?_)))
 refine hK3 _ _ ?_
 refine W.sr fun K25 hK25 => ?_
 refine zE 2 (hK25 _ _ ?_)
 refine W.ret ?_
 obtain rfl := some_inj hm
 refine ret_of (zi p5) (by kernel_rfl) ⟨_, ⟨rfl, rfl⟩, hs10⟩
end Go.Proofs.YtmmclabkkigiaaaGreatDoor

set_option maxRecDepth 20000
namespace Go.Proofs.YtmmclabkkigiaaaGreatDoor
open Go Go.RowKit
def rgive_M (img : List Int) (l : List (Int × Int)) (at_ : Int) (many : Int) (n_ : Int) : Option (Int × List (Int × Int)) :=
 if n_ < 1 then (some (1, l)) else (if n_ ≥ many then (some (1, l)) else ((rmget_M img l at_ many n_).bind fun r10 =>
if r10 = true then ((rmset_M img l at_ many n_ false).bind fun r17 =>
some (r17.1, r17.2)) else (some (3, l))))
theorem rgive_walk {img : List Int} {l : List (Int × Int)} {at_ : Int} {many : Int} {n_ : Int} {mb vb : Nat} {r : Int × List (Int × Int)} (B : Nat) (w : World) (hm : rgive_M img l at_ many n_ = some r) : Spec Tryz.prog 143 #[(zp mb), (zi n_)] B w [zb mb 175 [(zp vb), (zi at_), (zi many)], refA (ptr vb) img l] (fun v H' => v = .int .i64 r.1 ∧ H' = [zb mb 175 [(zp vb), (zi at_), (zi many)], refA (ptr vb) img r.2]) := by
 refine spec_W Tryz.func143 rfl fun l0 hs => ?_
 unfold rgive_M at hm
 refine W.sr fun K1 hK1 => ?_
 refine zE 1 (hK1 _ _ ?_)
 refine W.seq fun K2 hK2 => ?_
 refine W.sr fun K3 hK3 => ?_
 refine zR 3 ?_
 rcases Bool.eq_false_or_eq_true (decide (n_ < 1)) with h4 | h4
 ·
  obtain ⟨h4p, hm⟩ := iY hm h4
  refine zS 7 h4 ?_
  refine zS 6 h4 ?_
  refine zE 7 (hK3 _ _ ?_)
  refine W.cond_true true (by kernel_rfl) rfl ?_
  refine W.sr fun K5 hK5 => ?_
  refine zE 1 (hK5 _ _ ?_)
  refine W.ret (ret_seq ?_)
  obtain rfl := some_inj hm
  refine ret_of (zi 1) (by kernel_rfl) ⟨_, ⟨rfl, rfl⟩, hs⟩
 obtain ⟨h4p, hm⟩ := iN hm h4
 refine zS 7 h4 ?_
 refine zS 6 h4 ?_
 refine zR 4 ?_
 refine zL ⟨mb, 2, none⟩ (zi many) (hs.cellAt 0 rfl rfl) ?_
 refine zE 2 (hK3 _ _ ?_)
 refine W.cond (decide (n_ ≥ many)) (by kernel_rfl) (fun h6 => ?_) (fun h6 => ?_)
 ·
  obtain ⟨h6p, hm⟩ := iY hm h6
  refine W.sr fun K7 hK7 => ?_
  refine zE 1 (hK7 _ _ ?_)
  refine W.ret (ret_seq ?_)
  obtain rfl := some_inj hm
  refine ret_of (zi 1) (by kernel_rfl) ⟨_, ⟨rfl, rfl⟩, hs⟩
 obtain ⟨h6p, hm⟩ := iN hm h6
 refine W.skip ?_
 refine hK2 _ _ ?_
 refine W.seq fun K8 hK8 => ?_
 refine W.sr fun K9 hK9 => ?_
 refine zR 2 ?_
 obtain ⟨r10, h11, hm⟩ := bind_some hm
 refine zC00 hs (rmget_walk (hmb := (hs.heapAt 0 rfl)) (hv := (hs.entAt 1 rfl refA_at)) (hm := h11) B _) fun w12 hs14 => ?_
 refine zE 1 (hK9 _ _ ?_)
 refine W.cond (!r10) (by kernel_rfl) (fun h15 => ?_) (fun h15 => ?_)
 rotate_left
 ·
  have h15p : r10 = true := (bnot_false h15)
  replace hm := ite_yes hm h15p
  refine W.skip ?_
  refine hK8 _ _ ?_
  refine W.sr fun K16 hK16 => ?_
  refine zR 2 ?_
  obtain ⟨r17, h18, hm⟩ := bind_some hm
  have hs19 := St.f1 hs14
  have hs20 := St.f1 hs19
  refine zC22 hs20 (rmset_walk (mb := mb) (vb := vb) (many := many) (at_ := at_) (hm := h18) B _) fun w21 hs23 => ?_
  refine zE 1 (hK16 _ _ ?_)
  refine W.ret ?_
  obtain rfl := some_inj hm
  refine ret_of (zi r17.1) (by kernel_rfl) ⟨_, ⟨rfl, rfl⟩, hs23⟩
 have h15p : ¬ (r10 = true) := ne_true_of_eq_false (bnot_true h15)
 replace hm := ite_no hm h15p
 refine W.sr fun K24 hK24 => ?_
 refine zE 1 (hK24 _ _ ?_)
 refine W.ret (ret_seq ?_)
 obtain rfl := some_inj hm
 refine ret_of (zi 3) (by kernel_rfl) ⟨_, ⟨rfl, rfl⟩, hs14⟩
def rtakeb_J1 (r3 : Int × Bool) (p19 : Int) (l20 : List (Int × Int)) : Option (Int × Int × List (Int × Int)) :=
 if p19 = 0 then (some (r3.1, 0, l20)) else (some (0, p19, l20))
def rtakeb_B0 (img : List Int) (gw : Int) (gi : Int) (gb : Int) (r3 : Int × Bool) (k38 : ((List (Int × Int)) × Int × Int) → Option (Int × Int × List (Int × Int))) (l35 : List (Int × Int)) (p36 : Int) (p37 : Int) : Option (Int × Int × List (Int × Int)) :=
 if p37 < 8 then (if p36 = 0 then (need (-9223372036854775808 ≤ ((placeOf 9 gw gi gb r3.1) + p37) ∧ ((placeOf 9 gw gi gb r3.1) + p37) ≤ 9223372036854775807) <|
(some (vput img l35 ((placeOf 9 gw gi gb r3.1) + p37) 0)).bind fun r64 =>
need (-9223372036854775808 ≤ (p37 + 1) ∧ (p37 + 1) ≤ 9223372036854775807) <|
k38 (r64.2, r64.1, (p37 + 1))) else (rtakeb_J1 r3 p36 l35)) else (rtakeb_J1 r3 p36 l35)
def rtakeb_M (img : List Int) (l : List (Int × Int)) (gw : Int) (gi : Int) (gb : Int) (ba : Int) : Option (Int × Int × List (Int × Int)) :=
 (rmclear_M img l ba gb).bind fun r3 =>
if r3.2 = true then ((rmset_M img l ba gb r3.1 true).bind fun r12 =>
iter (fun k_ s_ => rtakeb_B0 img gw gi gb r3 k_ s_.1 s_.2.1 s_.2.2) FUEL (r12.2, r12.1, 0)) else (some (0, 7, l))
theorem rtakeb_walk {img : List Int} {l : List (Int × Int)} {gw : Int} {gi : Int} {gb : Int} {ia : Int} {ba : Int} {ab ib bb vb : Nat} {r : Int × Int × List (Int × Int)} (B : Nat) (w : World) (hm : rtakeb_M img l gw gi gb ba = some r) : Spec Tryz.prog 127 #[(zp ab)] B w [zb ab 177 [(zp vb), (zi gw), (zi gi), (zi gb), (zp ib), (zp bb)], zb ib 175 [(zp vb), (zi ia), (zi gi)], zb bb 175 [(zp vb), (zi ba), (zi gb)], refA (ptr vb) img l] (fun v H' => v = .tuple #[.int .i64 r.1, .int .i64 r.2.1] ∧ H' = [zb ab 177 [(zp vb), (zi gw), (zi gi), (zi gb), (zp ib), (zp bb)], zb ib 175 [(zp vb), (zi ia), (zi gi)], zb bb 175 [(zp vb), (zi ba), (zi gb)], refA (ptr vb) img r.2.2]) := by
 refine spec_W Tryz.func127 rfl fun l0 hs => ?_
 unfold rtakeb_M at hm
 refine W.sr fun K1 hK1 => ?_
 refine zE 2 (hK1 _ _ ?_)
 refine W.sr fun K2 hK2 => ?_
 refine zR 3 ?_
 refine zL ⟨ab, 5, none⟩ (zp bb) (hs.cellAt 0 rfl rfl) ?_
 obtain ⟨r3, h4, hm⟩ := bind_some hm
 refine zC00 hs (rmclear_walk (hmb := (hs.heapAt 2 rfl)) (hv := (hs.entAt 3 rfl refA_at)) (hm := h4) B _) fun w5 hs7 => ?_
 refine zE 5 (hK2 _ _ ?_)
 refine W.seq fun K8 hK8 => ?_
 refine W.sr fun K9 hK9 => ?_
 refine zE 2 (hK9 _ _ ?_)
 refine W.cond (!r3.2) (by kernel_rfl) (fun h10 => ?_) (fun h10 => ?_)
 rotate_left
 ·
  have h10p : r3.2 = true := (bnot_false h10)
  replace hm := ite_yes hm h10p
  refine W.skip ?_
  refine hK8 _ _ ?_
  refine W.sr fun K11 hK11 => ?_
  refine zR 3 ?_
  refine zL ⟨ab, 5, none⟩ (zp bb) (hs7.cellAt 0 rfl rfl) ?_
  refine zR 1 ?_
  obtain ⟨r12, h13, hm⟩ := bind_some hm
  have hs14 := St.f3 hs7
  have hs15 := St.f3 hs14
  refine zC22 hs15 (rmset_walk (mb := bb) (vb := vb) (many := gb) (at_ := ba) (hm := h13) B _) fun w16 hs18 => ?_
  refine zE 1 (hK11 _ _ ?_)
  refine W.seq_join (fun s_ w_ => ∃ (p19 : Int) (l20 : List (Int × Int)), (∃ us, s_ = slots 49 [(4, (zi r3.1)), (6, (zi p19))] us) ∧ St B w l0 w_ [refA (ptr vb) img l20, zb bb 175 [(zp vb), (zi ba), (zi gb)], zb ib 175 [(zp vb), (zi ia), (zi gi)], zb ab 177 [(zp vb), (zi gw), (zi gi), (zi gb), (zp ib), (zp bb)]] ∧ rtakeb_J1 r3 p19 l20 = some r) ?_ ?_
  ·
   rintro _ w21 ⟨p19, l20, ⟨us, rfl⟩, hs22, hm⟩
   unfold rtakeb_J1 at hm
   refine W.seq fun K23 hK23 => ?_
   refine W.sr fun K24 hK24 => ?_
   refine zE 2 (hK24 _ _ ?_)
   refine W.cond (!decide (p19 = 0)) (by kernel_rfl) (fun h25 => ?_) (fun h25 => ?_)
   rotate_left
   ·
    have h25p : p19 = 0 := of_decide_eq_true (bnot_false h25)
    replace hm := ite_yes hm h25p
    refine W.skip ?_
    refine hK23 _ _ ?_
    refine W.sr fun K26 hK26 => ?_
    refine zE 3 (hK26 _ _ ?_)
    refine W.ret ?_
    obtain rfl := some_inj hm
    have hs27 := St.f1 hs22
    have hs28 := St.f2 hs27
    have hs29 := St.f3 hs28
    refine ret_of (.tuple #[(zi r3.1), (zi 0)]) (by kernel_rfl) ⟨_, ⟨rfl, rfl⟩, hs29⟩
   have h25p : ¬ (p19 = 0) := of_decide_eq_false (bnot_true h25)
   replace hm := ite_no hm h25p
   refine W.sr fun K30 hK30 => ?_
   refine zE 3 (hK30 _ _ ?_)
   refine W.ret (ret_seq ?_)
   obtain rfl := some_inj hm
   have hs31 := St.f1 hs22
   have hs32 := St.f2 hs31
   have hs33 := St.f3 hs32
   refine ret_of (.tuple #[(zi 0), (zi p19)]) (by kernel_rfl) ⟨_, ⟨rfl, rfl⟩, hs33⟩
  refine W.sr fun K34 hK34 => ?_
  refine zE 1 (hK34 _ _ ?_)
  refine W.block ?_
  have hs42 := St.f2 hs18
  have hs43 := St.f1 hs42
  have hs44 := St.f3 hs43
  have hs45 := St.f3 hs44
  refine W.loop_iter (G := (List (Int × Int)) × Int × Int) (σ := (List (Int × Int)) × Int × Int) (fun | (l35, p36, p37) => (l35, p36, p37)) (fun | (l35, p36, p37), s_, w_ => (∃ us, s_ = slots 49 [(0, (zp ab)), (4, (zi r3.1)), (6, (zi p36)), (7, (zi p37))] us) ∧ St B w l0 w_ [refA (ptr vb) img l35, zb ib 175 [(zp vb), (zi ia), (zi gi)], zb bb 175 [(zp vb), (zi ba), (zi gb)], zb ab 177 [(zp vb), (zi gw), (zi gi), (zi gb), (zp ib), (zp bb)]]) (r12.2, r12.1, 0) ⟨slots_intro _ (by kernel_rfl), hs45⟩ hm ?_
  rintro k38 ih39 ⟨l35, p36, p37⟩ _ w40 ⟨⟨us, rfl⟩, hs41⟩ hm
  replace hm : rtakeb_B0 img gw gi gb r3 k38 l35 p36 p37 = some r := hm
  unfold rtakeb_B0 at hm
  refine W.seq fun K46 hK46 => ?_
  refine W.sr fun K47 hK47 => ?_
  refine zR 3 ?_
  rcases Bool.eq_false_or_eq_true (decide (p37 < 8)) with h48 | h48
  ·
   obtain ⟨h48p, hm⟩ := iY hm h48
   refine zS 26 h48 ?_
   refine zS 25 h48 ?_
   refine zE 3 (hK47 _ _ ?_)
   refine W.cond (decide (p36 = 0)) (by kernel_rfl) (fun h49 => ?_) (fun h49 => ?_)
   ·
    obtain ⟨h49p, hm⟩ := iY hm h49
    refine W.skip ?_
    refine hK46 _ _ ?_
    refine W.seq fun K50 hK50 => ?_
    refine W.block ?_
    have hs51 := hs41.drew
    have hs52 := St.f3 hs51
    have hs53 := St.f3 hs52
    have hs54 := St.f3 hs53
    have hs55 := St.tk3 hs54
    refine W.regionD [(0, 0), (1, 1), (2, 2), (4, 4), (0, 0), (16, 16), (32, 32), (64, 64), (0, 0), (384, 384), (0, 0), (1536, 1536), (2568, 2056), (8191, 4096)] (fun w_ => St B w l0 w_ [zb ib 175 [(zp vb), (zi ia), (zi gi)], zb bb 175 [(zp vb), (zi ba), (zi gb)], zb ab 177 [(zp vb), (zi gw), (zi gi), (zi gb), (zp ib), (zp bb)]]) (by kernel_rfl) hs55 ?_
    refine zA (zp ab) 0 hs55 ?_
    refine zA (zp ab) 1 hs55 ?_
    refine zA (zp ab) 2 hs55 ?_
    refine zB 3 ⟨ab, 0, none⟩ (zp vb) (fun _ hS_ => (hS_.cellAt 2 rfl rfl)) hs55 ?_
    refine zA (zp ab) 4 hs55 ?_
    refine zA (zp ab) 5 hs55 ?_
    refine zA (.pointer (some ⟨ab, 1, none⟩)) 6 hs55 ?_
    refine any_R 7 (by kernel_rfl) (fun _ hS_ => runs_loadAgg (ad := ⟨ab, 1, none⟩) (cs := [(zi gw), (zi gi), (zi gb)]) (by kernel_rfl) (cells_sub (hS_.heapAt 2 rfl) rfl)) hs55 ?_
    refine zA (zi r3.1) 8 hs55 ?_
    refine zA (zi p37) 10 hs55 ?_
    refine any_step 9 (by kernel_rfl) (by kernel_rfl) ?_
    refine zC00 hs51 (rblockat_spec (gw := gw) (gi := gi) (gb := gb) (n_ := r3.1) B _) fun w56 hs58 => ?_
    have hs59 := St.f3 hs58
    have hs60 := St.f3 hs59
    have hs61 := St.f3 hs60
    have hs62 := St.tk3 hs61
    refine ops_done (by kernel_rfl) ⟨hs62, ?_⟩
    obtain ⟨h63, hm⟩ := need_some hm
    refine any_val (v := .int .i64 (IntKind.i64.wrap ((placeOf 9 gw gi gb r3.1) + p37))) (v' := .int .i64 ((placeOf 9 gw gi gb r3.1) + p37)) 11 (by kernel_rfl) (fun _ => by kernel_rfl) (congrArg (Value.int .i64) (wrap_i64 h63.1 h63.2)) hs62 ?_
    refine any_step 12 (by kernel_rfl) (by kernel_rfl) ?_
    obtain ⟨r64, h65, hm⟩ := bind_some hm
    replace h65 := some_inj h65
    refine ops_call1 hs58 (by kernel_rfl) (rput_spec (p := (zp vb)) (img := img) (l := l35) (at_ := ((placeOf 9 gw gi gb r3.1) + p37)) (x_ := 0) B _) ?_
    rintro _ _ w68 ⟨hv66, hH67⟩ hs69
    rw [h65] at hv66
    try rw [h65] at hH67
    subst hv66 hH67
    have hs70 := St.ap1 hs69
    have hs71 := St.f3 hs70
    have hs72 := St.f3 hs71
    have hs73 := St.f3 hs72
    have hs74 := St.tk3 hs73
    refine ops_done (by kernel_rfl) ⟨hs74, ?_⟩
    refine zA (zi r64.1) 13 hs74 ?_
    refine any_done (by kernel_rfl) ?_
    refine normal_block ?_
    refine hK50 _ _ ?_
    refine W.region ?_
    refine zR 1 ?_
    obtain ⟨h75, hm⟩ := need_some hm
    refine zI _ (wrap_i64 h75.1 h75.2) ?_
    refine zE 1 ?_
    refine loopAt_next ?_
    exact ih39 (r64.2, r64.1, (p37 + 1)) _ _ ⟨slots_intro _ (by kernel_rfl), hs70⟩ hm
   obtain ⟨h49p, hm⟩ := iN hm h49
   refine W.exit (exit_seq (exit_seq (exit_here ?_)))
   have hs76 := St.f3 hs41
   have hs77 := St.f2 hs76
   have hs78 := St.f3 hs77
   have hs79 := St.f3 hs78
   exact ⟨p36, l35, slots_intro _ (by kernel_rfl), hs79, hm⟩
  obtain ⟨h48p, hm⟩ := iN hm h48
  refine zS 26 h48 ?_
  refine zS 25 h48 ?_
  refine zE 3 (hK47 _ _ ?_)
  refine W.cond_false false (by kernel_rfl) rfl ?_
  refine W.exit (exit_seq (exit_seq (exit_here ?_)))
  have hs80 := St.f3 hs41
  have hs81 := St.f2 hs80
  have hs82 := St.f3 hs81
  have hs83 := St.f3 hs82
  exact ⟨p36, l35, slots_intro _ (by kernel_rfl), hs83, hm⟩
 have h10p : ¬ (r3.2 = true) := ne_true_of_eq_false (bnot_true h10)
 replace hm := ite_no hm h10p
 refine W.sr fun K84 hK84 => ?_
 refine zE 2 (hK84 _ _ ?_)
 refine W.ret (ret_seq ?_)
 obtain rfl := some_inj hm
 refine ret_of (.tuple #[(zi 0), (zi 7)]) (by kernel_rfl) ⟨_, ⟨rfl, rfl⟩, hs7⟩
def rgiveb_M (img : List Int) (l : List (Int × Int)) (gb : Int) (ba : Int) (n_ : Int) : Option (Int × List (Int × Int)) :=
 (rgive_M img l ba gb n_).bind fun r3 =>
some (r3.1, r3.2)
theorem rgiveb_walk {img : List Int} {l : List (Int × Int)} {gw : Int} {gi : Int} {gb : Int} {ia : Int} {ba : Int} {n_ : Int} {ab ib bb vb : Nat} {r : Int × List (Int × Int)} (B : Nat) (w : World) (hm : rgiveb_M img l gb ba n_ = some r) : Spec Tryz.prog 128 #[(zp ab), (zi n_)] B w [zb ab 177 [(zp vb), (zi gw), (zi gi), (zi gb), (zp ib), (zp bb)], zb ib 175 [(zp vb), (zi ia), (zi gi)], zb bb 175 [(zp vb), (zi ba), (zi gb)], refA (ptr vb) img l] (fun v H' => v = .int .i64 r.1 ∧ H' = [zb ab 177 [(zp vb), (zi gw), (zi gi), (zi gb), (zp ib), (zp bb)], zb ib 175 [(zp vb), (zi ia), (zi gi)], zb bb 175 [(zp vb), (zi ba), (zi gb)], refA (ptr vb) img r.2]) := by
 refine spec_W Tryz.func128 rfl fun l0 hs => ?_
 unfold rgiveb_M at hm
 refine W.sr fun K1 hK1 => ?_
 refine zE 1 (hK1 _ _ ?_)
 refine W.sr fun K2 hK2 => ?_
 refine zR 3 ?_
 refine zL ⟨ab, 5, none⟩ (zp bb) (hs.cellAt 0 rfl rfl) ?_
 refine zR 1 ?_
 obtain ⟨r3, h4, hm⟩ := bind_some hm
 have hs5 := St.f3 hs
 have hs6 := St.f3 hs5
 refine zC22 hs6 (rgive_walk (mb := bb) (vb := vb) (many := gb) (at_ := ba) (hm := h4) B _) fun w7 hs9 => ?_
 refine zE 1 (hK2 _ _ ?_)
 refine W.ret ?_
 obtain rfl := some_inj hm
 have hs10 := St.f1 hs9
 have hs11 := St.f1 hs10
 have hs12 := St.f3 hs11
 have hs13 := St.f3 hs12
 refine ret_of (zi r3.1) (by kernel_rfl) ⟨_, ⟨rfl, rfl⟩, hs13⟩
def rfree_M (img : List Int) (l : List (Int × Int)) (gi : Int) (gb : Int) (ia : Int) (ba : Int) : Option (Int × Int) :=
 (rmcount_M img l ia gi).bind fun r4 =>
need (-9223372036854775808 ≤ (gi - r4) ∧ (gi - r4) ≤ 9223372036854775807) <|
(rmcount_M img l ba gb).bind fun r10 =>
need (-9223372036854775808 ≤ (gb - r10) ∧ (gb - r10) ≤ 9223372036854775807) <|
some ((gi - r4), (gb - r10))
theorem rfree_walk {img : List Int} {l : List (Int × Int)} {gw : Int} {gi : Int} {gb : Int} {ia : Int} {ba : Int} {ab ib bb vb : Nat} {r : Int × Int} (B : Nat) (w : World) (hab : w.heap[ab]? = some (.cells [(zp vb), (zi gw), (zi gi), (zi gb), (zp ib), (zp bb)].toArray 177 (0, 0))) (hib : w.heap[ib]? = some (.cells [(zp vb), (zi ia), (zi gi)].toArray 175 (0, 0))) (hbb : w.heap[bb]? = some (.cells [(zp vb), (zi ba), (zi gb)].toArray 175 (0, 0))) (hv : RefAt (ptr vb) img l w) (hm : rfree_M img l gi gb ia ba = some r) : Spec Tryz.prog 67 #[(zp ab)] B w [] (fun v H' => v = .tuple #[.int .i64 r.1, .int .i64 r.2] ∧ H' = []) := by
 refine spec_Q Tryz.func67 rfl fun hs => ?_
 unfold rfree_M at hm
 refine W.sr fun K1 hK1 => ?_
 refine zE 2 (hK1 _ _ ?_)
 refine W.seq fun K2 hK2 => ?_
 have hs3 := hs.drew
 refine W.regionD [(0, 0), (1, 1), (2, 2), (4, 4), (8, 8), (0, 0), (32, 32), (64, 64), (128, 128), (256, 256), (528, 528), (0, 0), (2048, 2048), (4096, 4096), (8192, 8192), (16384, 16384), (0, 0), (65536, 65536), (131072, 131072), (262144, 262144), (524800, 524288), (1081344, 1081344), (1050623, 1024), (8388607, 2097152)] (fun w_ => St B w [] w_ []) (by kernel_rfl) hs3 ?_
 refine zA (zp ab) 0 hs3 ?_
 refine zA (zp ab) 1 hs3 ?_
 refine zA (.pointer (some ⟨ab, 1, none⟩)) 2 hs3 ?_
 refine zA (.pointer (some ⟨ab, 2, none⟩)) 3 hs3 ?_
 refine zB 4 ⟨ab, 2, none⟩ (zi gi) (fun _ hS_ => (cell_of_blk (hS_.old hab) rfl)) hs3 ?_
 refine zA (zp ab) 5 hs3 ?_
 refine zA (zp ab) 6 hs3 ?_
 refine zA (.pointer (some ⟨ab, 4, none⟩)) 7 hs3 ?_
 refine zB 8 ⟨ab, 4, none⟩ (zp ib) (fun _ hS_ => (cell_of_blk (hS_.old hab) rfl)) hs3 ?_
 refine zA (zp ab) 11 hs3 ?_
 refine zA (zp ab) 12 hs3 ?_
 refine zA (.pointer (some ⟨ab, 1, none⟩)) 13 hs3 ?_
 refine zA (.pointer (some ⟨ab, 3, none⟩)) 14 hs3 ?_
 refine zB 15 ⟨ab, 3, none⟩ (zi gb) (fun _ hS_ => (cell_of_blk (hS_.old hab) rfl)) hs3 ?_
 refine zA (zp ab) 16 hs3 ?_
 refine zA (zp ab) 17 hs3 ?_
 refine zA (.pointer (some ⟨ab, 5, none⟩)) 18 hs3 ?_
 refine zB 19 ⟨ab, 5, none⟩ (zp bb) (fun _ hS_ => (cell_of_blk (hS_.old hab) rfl)) hs3 ?_
 refine any_step 9 (by kernel_rfl) (by kernel_rfl) ?_
 obtain ⟨r4, h5, hm⟩ := bind_some hm
 refine zC00 hs3 (rmcount_walk (hmb := (hs3.old hib)) (hv := (refAt_old hs3 hv)) (hm := h5) B _) fun w6 hs8 => ?_
 refine ops_done (by kernel_rfl) ⟨hs8, ?_⟩
 obtain ⟨h9, hm⟩ := need_some hm
 refine any_val (v := .int .i64 (IntKind.i64.wrap (gi - r4))) (v' := .int .i64 (gi - r4)) 10 (by kernel_rfl) (fun _ => by kernel_rfl) (congrArg (Value.int .i64) (wrap_i64 h9.1 h9.2)) hs8 ?_
 refine any_step 20 (by kernel_rfl) (by kernel_rfl) ?_
 obtain ⟨r10, h11, hm⟩ := bind_some hm
 refine zC00 hs8 (rmcount_walk (hmb := (hs8.old hbb)) (hv := (refAt_old hs8 hv)) (hm := h11) B _) fun w12 hs14 => ?_
 refine ops_done (by kernel_rfl) ⟨hs14, ?_⟩
 obtain ⟨h15, hm⟩ := need_some hm
 refine any_val (v := .int .i64 (IntKind.i64.wrap (gb - r10))) (v' := .int .i64 (gb - r10)) 21 (by kernel_rfl) (fun _ => by kernel_rfl) (congrArg (Value.int .i64) (wrap_i64 h15.1 h15.2)) hs14 ?_
 refine zA (zi (gi - r4)) 22 hs14 ?_
 refine zA (zi (gb - r10)) 23 hs14 ?_
 refine any_done (by kernel_rfl) ?_
 refine hK2 _ _ ?_
 refine W.ret ?_
 obtain rfl := some_inj hm
 refine ret_of (.tuple #[(zi (gi - r4)), (zi (gb - r10))]) (by kernel_rfl) ⟨_, ⟨rfl, rfl⟩, hs14⟩
end Go.Proofs.YtmmclabkkigiaaaGreatDoor

set_option maxRecDepth 20000
set_option maxHeartbeats 2000000
namespace Go.Proofs.YtmmclabkkigiaaaGreatDoor
open Go Go.RowKit
theorem rg_spec {b : Nat} {img : List Int} {l : List (Int × Int)} {gw gi gb n_ : Int} (B : Nat) (w : World) (hv : RefAt (ptr b) img l w) : Spec Tryz.prog 96 #[(zp b), (.agg #[(zi gw), (zi gi), (zi gb)]), (zi n_)] B w [] (fun v H' => v = (.tuple #[(.agg #[(zu ((igetM img l gw gi gb n_).1.k)), (zu ((igetM img l gw gi gb n_).1.l)), (zu ((igetM img l gw gi gb n_).1.o)), (zu ((igetM img l gw gi gb n_).1.s)), (zu ((igetM img l gw gi gb n_).1.a)), (zu ((igetM img l gw gi gb n_).1.b)), (zu ((igetM img l gw gi gb n_).1.c)), (zu ((igetM img l gw gi gb n_).1.d)), (zu ((igetM img l gw gi gb n_).1.e)), (zu ((igetM img l gw gi gb n_).1.m))]), (zi ((igetM img l gw gi gb n_).2))]) ∧ H' = []) := by
 refine spec_Q Tryz.func96 rfl fun hs => ?_
 have hrg := ifind_range (img.length : Int) gw gi gb n_
 refine W.sr fun K1 hK1 => ?_
 refine zN [(zi gw), (zi gi), (zi gb)] 42 hs fun b4 w2 hs3 => ?_
 refine zN [(zu 0), (zu 0), (zu 0), (zu 0), (zu 0), (zu 0), (zu 0), (zu 0), (zu 0), (zu 0)] 170 hs3 fun b7 w5 hs6 => ?_
 refine zE 1 (hK1 _ _ ?_)
 refine W.sr fun K8 hK8 => ?_
 refine zR 1 ?_
 refine zG ⟨b4, 0, none⟩ [(zi gw), (zi gi), (zi gb)] (cells_sub (hs6.heapAt 1 rfl) rfl) ?_
 refine zR 1 ?_
 refine zC00 hs6 (there_spec (gw := gw) (gi := gi) (gb := gb) (n_ := n_) (hv := (refAt_old hs6 hv)) B _) fun w9 hs11 => ?_
 refine zE 1 (hK8 _ _ ?_)
 refine W.seq fun K12 hK12 => ?_
 refine W.sr fun K13 hK13 => ?_
 refine zE 2 (hK13 _ _ ?_)
 refine W.cond (!decide ((ifind (img.length : Int) gw gi gb n_).2 = 0)) (by kernel_rfl) (fun h14 => ?_) (fun h14 => ?_)
 ·
  have h14p : ¬ ((ifind (img.length : Int) gw gi gb n_).2 = 0) := of_decide_eq_false (bnot_true h14)
  refine W.sr fun K15 hK15 => ?_
  refine zR 2 ?_
  refine zT 0 [(zu 0), (zu 0), (zu 0), (zu 0), (zu 0), (zu 0), (zu 0), (zu 0), (zu 0), (zu 0)] [(zu 0), (zu 0), (zu 0), (zu 0), (zu 0), (zu 0), (zu 0), (zu 0), (zu 0), (zu 0)] hs11 fun w16 hs18 => ?_
  refine zE 1 (hK15 _ _ ?_)
  refine W.ret (ret_seq ?_)
  have e_ : igetM img l gw gi gb n_ = (Nd.zero, (ifind (img.length : Int) gw gi gb n_).2) := by first | (exfalso; omega) | (simp only [igetM]; exact if_neg (by assumption))
  have hs19 := St.tk0 hs18
  refine ret_of (.tuple #[(.agg #[(zu 0), (zu 0), (zu 0), (zu 0), (zu 0), (zu 0), (zu 0), (zu 0), (zu 0), (zu 0)]), (zi ((ifind (img.length : Int) gw gi gb n_).2))]) (results_cell2 (ad := ⟨b7, 0, none⟩) (cs := [(zu 0), (zu 0), (zu 0), (zu 0), (zu 0), (zu 0), (zu 0), (zu 0), (zu 0), (zu 0)]) rfl (by kernel_rfl) (by kernel_rfl) (by kernel_rfl) (cells_sub (hs18.heapAt 0 rfl) rfl)) ⟨_, ⟨by rw [e_]; try rfl, rfl⟩, hs19⟩
 have h14p : (ifind (img.length : Int) gw gi gb n_).2 = 0 := of_decide_eq_true (bnot_false h14)
 refine W.skip ?_
 refine hK12 _ _ ?_
 refine W.sr fun K20 hK20 => ?_
 refine zG ⟨b4, 0, none⟩ [(zi gw), (zi gi), (zi gb)] (cells_sub (hs11.heapAt 1 rfl) rfl) ?_
 refine zR 1 ?_
 refine zC00 hs11 (rinodeat_spec (gw := gw) (gi := gi) (gb := gb) (n_ := n_) B _) fun w21 hs23 => ?_
 refine zE 1 (hK20 _ _ ?_)
 refine W.sr fun K24 hK24 => ?_
 refine zR 2 ?_
 refine zC00 hs23 (rget_spec (at_ := (placeOf 8 gw gi gb n_)) (hv := (refAt_old hs23 hv)) B _) fun w25 hs27 => ?_
 refine zR 2 ?_
 refine zI ((placeOf 8 gw gi gb n_) + 1) (wrap_i64 (by omega) (by omega)) ?_
 refine zC00 hs27 (rget_spec (at_ := ((placeOf 8 gw gi gb n_) + 1)) (hv := (refAt_old hs27 hv)) B _) fun w28 hs30 => ?_
 refine zR 2 ?_
 refine zI ((placeOf 8 gw gi gb n_) + 2) (wrap_i64 (by omega) (by omega)) ?_
 refine zC00 hs30 (rget_spec (at_ := ((placeOf 8 gw gi gb n_) + 2)) (hv := (refAt_old hs30 hv)) B _) fun w31 hs33 => ?_
 refine zR 2 ?_
 refine zI ((placeOf 8 gw gi gb n_) + 3) (wrap_i64 (by omega) (by omega)) ?_
 refine zC00 hs33 (rget_spec (at_ := ((placeOf 8 gw gi gb n_) + 3)) (hv := (refAt_old hs33 hv)) B _) fun w34 hs36 => ?_
 refine zR 2 ?_
 refine zI ((placeOf 8 gw gi gb n_) + 8) (wrap_i64 (by omega) (by omega)) ?_
 refine zC00 hs36 (rget_spec (at_ := ((placeOf 8 gw gi gb n_) + 8)) (hv := (refAt_old hs36 hv)) B _) fun w37 hs39 => ?_
 refine zR 2 ?_
 refine zI ((placeOf 8 gw gi gb n_) + 9) (wrap_i64 (by omega) (by omega)) ?_
 refine zC00 hs39 (rget_spec (at_ := ((placeOf 8 gw gi gb n_) + 9)) (hv := (refAt_old hs39 hv)) B _) fun w40 hs42 => ?_
 refine zR 1 ?_
 refine zN [(zu 0), (zu 0), (zu 0), (zu 0), (zu 0), (zu 0), (zu 0), (zu 0), (zu 0), (zu 0)] 170 hs42 fun b45 w43 hs44 => ?_
 refine zT 0 [(zu (vget img l (placeOf 8 gw gi gb n_))), (zu (vget img l ((placeOf 8 gw gi gb n_) + 1))), (zu (vget img l ((placeOf 8 gw gi gb n_) + 2))), (zu (vget img l ((placeOf 8 gw gi gb n_) + 3))), (zu 0), (zu 0), (zu 0), (zu 0), (zu (vget img l ((placeOf 8 gw gi gb n_) + 8))), (zu (vget img l ((placeOf 8 gw gi gb n_) + 9)))] [(zu (vget img l (placeOf 8 gw gi gb n_))), (zu (vget img l ((placeOf 8 gw gi gb n_) + 1))), (zu (vget img l ((placeOf 8 gw gi gb n_) + 2))), (zu (vget img l ((placeOf 8 gw gi gb n_) + 3))), (zu 0), (zu 0), (zu 0), (zu 0), (zu (vget img l ((placeOf 8 gw gi gb n_) + 8))), (zu (vget img l ((placeOf 8 gw gi gb n_) + 9)))] hs44 fun w46 hs48 => ?_
 refine zD (hK24 _ _ ?_)
 refine W.seq fun K49 hK49 => ?_
 refine W.sr fun K50 hK50 => ?_
 refine zE 1 (hK50 _ _ ?_)
 refine W.block ?_
 refine W.loop_start ?_
 refine loopAt_round ?_
 refine W.seq fun K51 hK51 => ?_
 refine W.sr fun K52 hK52 => ?_
 refine zE 2 (hK52 _ _ ?_)
 refine W.cond_true true (by kernel_rfl) rfl ?_
 refine W.skip ?_
 refine hK51 _ _ ?_
 refine W.seq fun K53 hK53 => ?_
 refine W.block ?_
 refine W.region ?_
 refine zR 3 ?_
 refine zI ((placeOf 8 gw gi gb n_) + 4) (wrap_i64 (by omega) (by omega)) ?_
 refine zR 1 ?_
 refine zI (((placeOf 8 gw gi gb n_) + 4) + 0) (wrap_i64 (by omega) (by omega)) ?_
 refine zC00 hs48 (rget_spec (at_ := (((placeOf 8 gw gi gb n_) + 4) + 0)) (hv := (refAt_old hs48 hv)) B _) fun w54 hs56 => ?_
 refine zR 2 ?_
 refine zT 4 [(zu (vget img l (((placeOf 8 gw gi gb n_) + 4) + 0)))] [(zu (vget img l (placeOf 8 gw gi gb n_))), (zu (vget img l ((placeOf 8 gw gi gb n_) + 1))), (zu (vget img l ((placeOf 8 gw gi gb n_) + 2))), (zu (vget img l ((placeOf 8 gw gi gb n_) + 3))), (zu (vget img l (((placeOf 8 gw gi gb n_) + 4) + 0))), (zu 0), (zu 0), (zu 0), (zu (vget img l ((placeOf 8 gw gi gb n_) + 8))), (zu (vget img l ((placeOf 8 gw gi gb n_) + 9)))] hs56 fun w57 hs59 => ?_
 refine zD ?_
 refine normal_block ?_
 refine hK53 _ _ ?_
 refine W.region ?_
 refine zE 3 ?_
 refine loopAt_next ?_
 refine loopAt_round ?_
 refine W.seq fun K60 hK60 => ?_
 refine W.sr fun K61 hK61 => ?_
 refine zE 2 (hK61 _ _ ?_)
 refine W.cond_true true (by kernel_rfl) rfl ?_
 refine W.skip ?_
 refine hK60 _ _ ?_
 refine W.seq fun K62 hK62 => ?_
 refine W.block ?_
 refine W.region ?_
 refine zR 3 ?_
 refine zI ((placeOf 8 gw gi gb n_) + 4) (wrap_i64 (by omega) (by omega)) ?_
 refine zR 1 ?_
 refine zI (((placeOf 8 gw gi gb n_) + 4) + 1) (wrap_i64 (by omega) (by omega)) ?_
 refine zC00 hs59 (rget_spec (at_ := (((placeOf 8 gw gi gb n_) + 4) + 1)) (hv := (refAt_old hs59 hv)) B _) fun w63 hs65 => ?_
 refine zR 2 ?_
 refine zT 5 [(zu (vget img l (((placeOf 8 gw gi gb n_) + 4) + 1)))] [(zu (vget img l (placeOf 8 gw gi gb n_))), (zu (vget img l ((placeOf 8 gw gi gb n_) + 1))), (zu (vget img l ((placeOf 8 gw gi gb n_) + 2))), (zu (vget img l ((placeOf 8 gw gi gb n_) + 3))), (zu (vget img l (((placeOf 8 gw gi gb n_) + 4) + 0))), (zu (vget img l (((placeOf 8 gw gi gb n_) + 4) + 1))), (zu 0), (zu 0), (zu (vget img l ((placeOf 8 gw gi gb n_) + 8))), (zu (vget img l ((placeOf 8 gw gi gb n_) + 9)))] hs65 fun w66 hs68 => ?_
 refine zD ?_
 refine normal_block ?_
 refine hK62 _ _ ?_
 refine W.region ?_
 refine zE 3 ?_
 refine loopAt_next ?_
 refine loopAt_round ?_
 refine W.seq fun K69 hK69 => ?_
 refine W.sr fun K70 hK70 => ?_
 refine zE 2 (hK70 _ _ ?_)
 refine W.cond_true true (by kernel_rfl) rfl ?_
 refine W.skip ?_
 refine hK69 _ _ ?_
 refine W.seq fun K71 hK71 => ?_
 refine W.block ?_
 refine W.region ?_
 refine zR 3 ?_
 refine zI ((placeOf 8 gw gi gb n_) + 4) (wrap_i64 (by omega) (by omega)) ?_
 refine zR 1 ?_
 refine zI (((placeOf 8 gw gi gb n_) + 4) + 2) (wrap_i64 (by omega) (by omega)) ?_
 refine zC00 hs68 (rget_spec (at_ := (((placeOf 8 gw gi gb n_) + 4) + 2)) (hv := (refAt_old hs68 hv)) B _) fun w72 hs74 => ?_
 refine zR 2 ?_
 refine zT 6 [(zu (vget img l (((placeOf 8 gw gi gb n_) + 4) + 2)))] [(zu (vget img l (placeOf 8 gw gi gb n_))), (zu (vget img l ((placeOf 8 gw gi gb n_) + 1))), (zu (vget img l ((placeOf 8 gw gi gb n_) + 2))), (zu (vget img l ((placeOf 8 gw gi gb n_) + 3))), (zu (vget img l (((placeOf 8 gw gi gb n_) + 4) + 0))), (zu (vget img l (((placeOf 8 gw gi gb n_) + 4) + 1))), (zu (vget img l (((placeOf 8 gw gi gb n_) + 4) + 2))), (zu 0), (zu (vget img l ((placeOf 8 gw gi gb n_) + 8))), (zu (vget img l ((placeOf 8 gw gi gb n_) + 9)))] hs74 fun w75 hs77 => ?_
 refine zD ?_
 refine normal_block ?_
 refine hK71 _ _ ?_
 refine W.region ?_
 refine zE 3 ?_
 refine loopAt_next ?_
 refine loopAt_round ?_
 refine W.seq fun K78 hK78 => ?_
 refine W.sr fun K79 hK79 => ?_
 refine zE 2 (hK79 _ _ ?_)
 refine W.cond_true true (by kernel_rfl) rfl ?_
 refine W.skip ?_
 refine hK78 _ _ ?_
 refine W.seq fun K80 hK80 => ?_
 refine W.block ?_
 refine W.region ?_
 refine zR 3 ?_
 refine zI ((placeOf 8 gw gi gb n_) + 4) (wrap_i64 (by omega) (by omega)) ?_
 refine zR 1 ?_
 refine zI (((placeOf 8 gw gi gb n_) + 4) + 3) (wrap_i64 (by omega) (by omega)) ?_
 refine zC00 hs77 (rget_spec (at_ := (((placeOf 8 gw gi gb n_) + 4) + 3)) (hv := (refAt_old hs77 hv)) B _) fun w81 hs83 => ?_
 refine zR 2 ?_
 refine zT 7 [(zu (vget img l (((placeOf 8 gw gi gb n_) + 4) + 3)))] [(zu (vget img l (placeOf 8 gw gi gb n_))), (zu (vget img l ((placeOf 8 gw gi gb n_) + 1))), (zu (vget img l ((placeOf 8 gw gi gb n_) + 2))), (zu (vget img l ((placeOf 8 gw gi gb n_) + 3))), (zu (vget img l (((placeOf 8 gw gi gb n_) + 4) + 0))), (zu (vget img l (((placeOf 8 gw gi gb n_) + 4) + 1))), (zu (vget img l (((placeOf 8 gw gi gb n_) + 4) + 2))), (zu (vget img l (((placeOf 8 gw gi gb n_) + 4) + 3))), (zu (vget img l ((placeOf 8 gw gi gb n_) + 8))), (zu (vget img l ((placeOf 8 gw gi gb n_) + 9)))] hs83 fun w84 hs86 => ?_
 refine zD ?_
 refine normal_block ?_
 refine hK80 _ _ ?_
 refine W.region ?_
 refine zE 3 ?_
 refine loopAt_next ?_
 refine loopAt_round ?_
 refine W.seq fun K87 hK87 => ?_
 refine W.sr fun K88 hK88 => ?_
 refine zE 2 (hK88 _ _ ?_)
 refine W.cond_false false (by kernel_rfl) rfl ?_
 refine W.exit (exit_seq (exit_seq (exit_here ?_)))
 refine hK49 _ _ ?_
 refine W.seq fun K89 hK89 => ?_
 refine W.sr fun K90 hK90 => ?_
 refine zG ⟨b4, 0, none⟩ [(zi gw), (zi gi), (zi gb)] (cells_sub (hs86.heapAt 2 rfl) rfl) ?_
 refine zG ⟨b45, 0, none⟩ [(zu (vget img l (placeOf 8 gw gi gb n_))), (zu (vget img l ((placeOf 8 gw gi gb n_) + 1))), (zu (vget img l ((placeOf 8 gw gi gb n_) + 2))), (zu (vget img l ((placeOf 8 gw gi gb n_) + 3))), (zu (vget img l (((placeOf 8 gw gi gb n_) + 4) + 0))), (zu (vget img l (((placeOf 8 gw gi gb n_) + 4) + 1))), (zu (vget img l (((placeOf 8 gw gi gb n_) + 4) + 2))), (zu (vget img l (((placeOf 8 gw gi gb n_) + 4) + 3))), (zu (vget img l ((placeOf 8 gw gi gb n_) + 8))), (zu (vget img l ((placeOf 8 gw gi gb n_) + 9)))] (cells_sub (hs86.heapAt 0 rfl) rfl) ?_
 refine zC00 hs86 (rright_spec (gw := gw) (gi := gi) (gb := gb) (x_ := ⟨(vget img l (placeOf 8 gw gi gb n_)), (vget img l ((placeOf 8 gw gi gb n_) + 1)), (vget img l ((placeOf 8 gw gi gb n_) + 2)), (vget img l ((placeOf 8 gw gi gb n_) + 3)), (vget img l (((placeOf 8 gw gi gb n_) + 4) + 0)), (vget img l (((placeOf 8 gw gi gb n_) + 4) + 1)), (vget img l (((placeOf 8 gw gi gb n_) + 4) + 2)), (vget img l (((placeOf 8 gw gi gb n_) + 4) + 3)), (vget img l ((placeOf 8 gw gi gb n_) + 8)), (vget img l ((placeOf 8 gw gi gb n_) + 9))⟩) B _) fun w91 hs93 => ?_
 refine zE 1 (hK90 _ _ ?_)
 refine W.cond (!(decide (RightP gw gi gb ⟨(vget img l (placeOf 8 gw gi gb n_)), (vget img l ((placeOf 8 gw gi gb n_) + 1)), (vget img l ((placeOf 8 gw gi gb n_) + 2)), (vget img l ((placeOf 8 gw gi gb n_) + 3)), (vget img l (((placeOf 8 gw gi gb n_) + 4) + 0)), (vget img l (((placeOf 8 gw gi gb n_) + 4) + 1)), (vget img l (((placeOf 8 gw gi gb n_) + 4) + 2)), (vget img l (((placeOf 8 gw gi gb n_) + 4) + 3)), (vget img l ((placeOf 8 gw gi gb n_) + 8)), (vget img l ((placeOf 8 gw gi gb n_) + 9))⟩))) (by kernel_rfl) (fun h94 => ?_) (fun h94 => ?_)
 ·
  have h94p : ¬ (RightP gw gi gb ⟨(vget img l (placeOf 8 gw gi gb n_)), (vget img l ((placeOf 8 gw gi gb n_) + 1)), (vget img l ((placeOf 8 gw gi gb n_) + 2)), (vget img l ((placeOf 8 gw gi gb n_) + 3)), (vget img l (((placeOf 8 gw gi gb n_) + 4) + 0)), (vget img l (((placeOf 8 gw gi gb n_) + 4) + 1)), (vget img l (((placeOf 8 gw gi gb n_) + 4) + 2)), (vget img l (((placeOf 8 gw gi gb n_) + 4) + 3)), (vget img l ((placeOf 8 gw gi gb n_) + 8)), (vget img l ((placeOf 8 gw gi gb n_) + 9))⟩) := of_decide_eq_false (bnot_true h94)
  refine W.sr fun K95 hK95 => ?_
  refine zR 1 ?_
  have hs98 := St.f1 hs93
  refine zT 0 [(zu 0), (zu 0), (zu 0), (zu 0), (zu 0), (zu 0), (zu 0), (zu 0), (zu 0), (zu 0)] [(zu 0), (zu 0), (zu 0), (zu 0), (zu 0), (zu 0), (zu 0), (zu 0), (zu 0), (zu 0)] hs98 fun w96 hs99 => ?_
  refine zE 1 (hK95 _ _ ?_)
  refine W.ret (ret_seq ?_)
  have en_ : (⟨(vget img l (placeOf 8 gw gi gb n_)), (vget img l ((placeOf 8 gw gi gb n_) + 1)), (vget img l ((placeOf 8 gw gi gb n_) + 2)), (vget img l ((placeOf 8 gw gi gb n_) + 3)), (vget img l (((placeOf 8 gw gi gb n_) + 4) + 0)), (vget img l (((placeOf 8 gw gi gb n_) + 4) + 1)), (vget img l (((placeOf 8 gw gi gb n_) + 4) + 2)), (vget img l (((placeOf 8 gw gi gb n_) + 4) + 3)), (vget img l ((placeOf 8 gw gi gb n_) + 8)), (vget img l ((placeOf 8 gw gi gb n_) + 9))⟩ : Nd) = ndAt img l (ifind (img.length : Int) gw gi gb n_).1 := by first | (exfalso; omega) | (rw [hrg.2.2 (by assumption)]; simp only [ndAt, Int.add_zero, Int.add_assoc, Int.reduceAdd])
  have e_ : igetM img l gw gi gb n_ = (Nd.zero, 4) := by first | (exfalso; omega) | (simp only [igetM]; rw [if_pos (by assumption), ← en_]; exact if_neg (by assumption))
  have hs100 := St.tk0 hs99
  refine ret_of (.tuple #[(.agg #[(zu 0), (zu 0), (zu 0), (zu 0), (zu 0), (zu 0), (zu 0), (zu 0), (zu 0), (zu 0)]), (zi 4)]) (results_cell2 (ad := ⟨b7, 0, none⟩) (cs := [(zu 0), (zu 0), (zu 0), (zu 0), (zu 0), (zu 0), (zu 0), (zu 0), (zu 0), (zu 0)]) rfl (by kernel_rfl) (by kernel_rfl) (by kernel_rfl) (cells_sub (hs99.heapAt 0 rfl) rfl)) ⟨_, ⟨by rw [e_]; try rfl, rfl⟩, hs100⟩
 have h94p : RightP gw gi gb ⟨(vget img l (placeOf 8 gw gi gb n_)), (vget img l ((placeOf 8 gw gi gb n_) + 1)), (vget img l ((placeOf 8 gw gi gb n_) + 2)), (vget img l ((placeOf 8 gw gi gb n_) + 3)), (vget img l (((placeOf 8 gw gi gb n_) + 4) + 0)), (vget img l (((placeOf 8 gw gi gb n_) + 4) + 1)), (vget img l (((placeOf 8 gw gi gb n_) + 4) + 2)), (vget img l (((placeOf 8 gw gi gb n_) + 4) + 3)), (vget img l ((placeOf 8 gw gi gb n_) + 8)), (vget img l ((placeOf 8 gw gi gb n_) + 9))⟩ := of_decide_eq_true (bnot_false h94)
 refine W.skip ?_
 refine hK89 _ _ ?_
 refine W.sr fun K101 hK101 => ?_
 refine zG ⟨b45, 0, none⟩ [(zu (vget img l (placeOf 8 gw gi gb n_))), (zu (vget img l ((placeOf 8 gw gi gb n_) + 1))), (zu (vget img l ((placeOf 8 gw gi gb n_) + 2))), (zu (vget img l ((placeOf 8 gw gi gb n_) + 3))), (zu (vget img l (((placeOf 8 gw gi gb n_) + 4) + 0))), (zu (vget img l (((placeOf 8 gw gi gb n_) + 4) + 1))), (zu (vget img l (((placeOf 8 gw gi gb n_) + 4) + 2))), (zu (vget img l (((placeOf 8 gw gi gb n_) + 4) + 3))), (zu (vget img l ((placeOf 8 gw gi gb n_) + 8))), (zu (vget img l ((placeOf 8 gw gi gb n_) + 9)))] (cells_sub (hs93.heapAt 0 rfl) rfl) ?_
 have hs104 := St.f1 hs93
 refine zT 0 [(zu (vget img l (placeOf 8 gw gi gb n_))), (zu (vget img l ((placeOf 8 gw gi gb n_) + 1))), (zu (vget img l ((placeOf 8 gw gi gb n_) + 2))), (zu (vget img l ((placeOf 8 gw gi gb n_) + 3))), (zu (vget img l (((placeOf 8 gw gi gb n_) + 4) + 0))), (zu (vget img l (((placeOf 8 gw gi gb n_) + 4) + 1))), (zu (vget img l (((placeOf 8 gw gi gb n_) + 4) + 2))), (zu (vget img l (((placeOf 8 gw gi gb n_) + 4) + 3))), (zu (vget img l ((placeOf 8 gw gi gb n_) + 8))), (zu (vget img l ((placeOf 8 gw gi gb n_) + 9)))] [(zu (vget img l (placeOf 8 gw gi gb n_))), (zu (vget img l ((placeOf 8 gw gi gb n_) + 1))), (zu (vget img l ((placeOf 8 gw gi gb n_) + 2))), (zu (vget img l ((placeOf 8 gw gi gb n_) + 3))), (zu (vget img l (((placeOf 8 gw gi gb n_) + 4) + 0))), (zu (vget img l (((placeOf 8 gw gi gb n_) + 4) + 1))), (zu (vget img l (((placeOf 8 gw gi gb n_) + 4) + 2))), (zu (vget img l (((placeOf 8 gw gi gb n_) + 4) + 3))), (zu (vget img l ((placeOf 8 gw gi gb n_) + 8))), (zu (vget img l ((placeOf 8 gw gi gb n_) + 9)))] hs104 fun w102 hs105 => ?_
 refine zE 1 (hK101 _ _ ?_)
 refine W.ret ?_
 have en_ : (⟨(vget img l (placeOf 8 gw gi gb n_)), (vget img l ((placeOf 8 gw gi gb n_) + 1)), (vget img l ((placeOf 8 gw gi gb n_) + 2)), (vget img l ((placeOf 8 gw gi gb n_) + 3)), (vget img l (((placeOf 8 gw gi gb n_) + 4) + 0)), (vget img l (((placeOf 8 gw gi gb n_) + 4) + 1)), (vget img l (((placeOf 8 gw gi gb n_) + 4) + 2)), (vget img l (((placeOf 8 gw gi gb n_) + 4) + 3)), (vget img l ((placeOf 8 gw gi gb n_) + 8)), (vget img l ((placeOf 8 gw gi gb n_) + 9))⟩ : Nd) = ndAt img l (ifind (img.length : Int) gw gi gb n_).1 := by first | (exfalso; omega) | (rw [hrg.2.2 (by assumption)]; simp only [ndAt, Int.add_zero, Int.add_assoc, Int.reduceAdd])
 have e_ : igetM img l gw gi gb n_ = (⟨(vget img l (placeOf 8 gw gi gb n_)), (vget img l ((placeOf 8 gw gi gb n_) + 1)), (vget img l ((placeOf 8 gw gi gb n_) + 2)), (vget img l ((placeOf 8 gw gi gb n_) + 3)), (vget img l (((placeOf 8 gw gi gb n_) + 4) + 0)), (vget img l (((placeOf 8 gw gi gb n_) + 4) + 1)), (vget img l (((placeOf 8 gw gi gb n_) + 4) + 2)), (vget img l (((placeOf 8 gw gi gb n_) + 4) + 3)), (vget img l ((placeOf 8 gw gi gb n_) + 8)), (vget img l ((placeOf 8 gw gi gb n_) + 9))⟩, 0) := by first | (exfalso; omega) | (simp only [igetM]; rw [if_pos (by assumption), ← en_]; exact if_pos (by assumption))
 have hs106 := St.tk0 hs105
 refine ret_of (.tuple #[(.agg #[(zu (vget img l (placeOf 8 gw gi gb n_))), (zu (vget img l ((placeOf 8 gw gi gb n_) + 1))), (zu (vget img l ((placeOf 8 gw gi gb n_) + 2))), (zu (vget img l ((placeOf 8 gw gi gb n_) + 3))), (zu (vget img l (((placeOf 8 gw gi gb n_) + 4) + 0))), (zu (vget img l (((placeOf 8 gw gi gb n_) + 4) + 1))), (zu (vget img l (((placeOf 8 gw gi gb n_) + 4) + 2))), (zu (vget img l (((placeOf 8 gw gi gb n_) + 4) + 3))), (zu (vget img l ((placeOf 8 gw gi gb n_) + 8))), (zu (vget img l ((placeOf 8 gw gi gb n_) + 9)))]), (zi 0)]) (results_cell2 (ad := ⟨b7, 0, none⟩) (cs := [(zu (vget img l (placeOf 8 gw gi gb n_))), (zu (vget img l ((placeOf 8 gw gi gb n_) + 1))), (zu (vget img l ((placeOf 8 gw gi gb n_) + 2))), (zu (vget img l ((placeOf 8 gw gi gb n_) + 3))), (zu (vget img l (((placeOf 8 gw gi gb n_) + 4) + 0))), (zu (vget img l (((placeOf 8 gw gi gb n_) + 4) + 1))), (zu (vget img l (((placeOf 8 gw gi gb n_) + 4) + 2))), (zu (vget img l (((placeOf 8 gw gi gb n_) + 4) + 3))), (zu (vget img l ((placeOf 8 gw gi gb n_) + 8))), (zu (vget img l ((placeOf 8 gw gi gb n_) + 9)))]) rfl (by kernel_rfl) (by kernel_rfl) (by kernel_rfl) (cells_sub (hs105.heapAt 0 rfl) rfl)) ⟨_, ⟨by rw [e_]; try rfl, rfl⟩, hs106⟩
end Go.Proofs.YtmmclabkkigiaaaGreatDoor

set_option maxRecDepth 20000
set_option maxHeartbeats 2000000
namespace Go.Proofs.YtmmclabkkigiaaaGreatDoor
open Go Go.RowKit
def rword13_M (img : List Int) (l : List (Int × Int)) (gw : Int) (gi : Int) (gb : Int) (n_ : Int) (k_ : Int) : Option (Int) :=
 (some (placeOf 8 gw gi gb n_)).bind fun r4 =>
if k_ < 4 then (need (-9223372036854775808 ≤ (r4 + 4) ∧ (r4 + 4) ≤ 9223372036854775807) <|
need (-9223372036854775808 ≤ ((r4 + 4) + k_) ∧ ((r4 + 4) + k_) ≤ 9223372036854775807) <|
some ((r4 + 4) + k_)) else (need (-9223372036854775808 ≤ (r4 + 8) ∧ (r4 + 8) ≤ 9223372036854775807) <|
if (vget img l (r4 + 8)) = 0 then (some (-1)) else (need (-9223372036854775808 ≤ (vget img l (r4 + 8)) ∧ (vget img l (r4 + 8)) ≤ 9223372036854775807) <|
need (-9223372036854775808 ≤ ((placeOf 9 gw gi gb (vget img l (r4 + 8))) + k_) ∧ ((placeOf 9 gw gi gb (vget img l (r4 + 8))) + k_) ≤ 9223372036854775807) <|
need (-9223372036854775808 ≤ (((placeOf 9 gw gi gb (vget img l (r4 + 8))) + k_) - 4) ∧ (((placeOf 9 gw gi gb (vget img l (r4 + 8))) + k_) - 4) ≤ 9223372036854775807) <|
(some (((placeOf 9 gw gi gb (vget img l (r4 + 8))) + k_) - 4)).bind fun r33 =>
some r33))
theorem rword13_walk {img : List Int} {l : List (Int × Int)} {gw : Int} {gi : Int} {gb : Int} {n_ : Int} {k_ : Int} {mb vb : Nat} {r : Int} (B : Nat) (w : World) (hmb : w.heap[mb]? = some (.cells [(zp vb), (zi gw), (zi gi), (zi gb), (zi n_)].toArray 127 (0, 0))) (hv : RefAt (ptr vb) img l w) (hm : rword13_M img l gw gi gb n_ k_ = some r) : Spec Tryz.prog 99 #[(zp mb), (zi k_)] B w [] (fun v H' => v = (zi r) ∧ H' = []) := by
 refine spec_Q Tryz.func99 rfl fun hs => ?_
 unfold rword13_M at hm
 refine W.sr fun K1 hK1 => ?_
 refine zE 1 (hK1 _ _ ?_)
 refine W.seq fun K2 hK2 => ?_
 have hs3 := hs.drew
 refine W.regionD [(0, 0), (1, 1), (2, 2), (4, 4), (0, 0), (16, 16), (32, 32), (64, 64), (136, 136), (511, 256)] (fun w_ => St B w [] w_ []) (by kernel_rfl) hs3 ?_
 refine zA (zp mb) 0 hs3 ?_
 refine zA (zp mb) 1 hs3 ?_
 refine zA (.pointer (some ⟨mb, 1, none⟩)) 2 hs3 ?_
 refine any_R 3 (by kernel_rfl) (fun _ hS_ => runs_loadAgg (ad := ⟨mb, 1, none⟩) (cs := [(zi gw), (zi gi), (zi gb)]) (by kernel_rfl) (cells_sub (hS_.old hmb) rfl)) hs3 ?_
 refine zA (zp mb) 4 hs3 ?_
 refine zA (zp mb) 5 hs3 ?_
 refine zA (.pointer (some ⟨mb, 4, none⟩)) 6 hs3 ?_
 refine zB 7 ⟨mb, 4, none⟩ (zi n_) (fun _ hS_ => (cell_of_blk (hS_.old hmb) rfl)) hs3 ?_
 refine any_step 8 (by kernel_rfl) (by kernel_rfl) ?_
 obtain ⟨r4, h5, hm⟩ := bind_some hm
 replace h5 := some_inj h5
 refine ops_call0 hs3 (by kernel_rfl) (rinodeat_spec (gw := gw) (gi := gi) (gb := gb) (n_ := n_) B _) ?_
 rintro _ _ w6 ⟨hv8, hH9⟩ hs7
 rw [h5] at hv8
 try rw [h5] at hH9
 subst hv8 hH9
 have hs10 := St.ap0 hs7
 refine ops_done (by kernel_rfl) ⟨hs10, ?_⟩
 refine zA (zi r4) 9 hs10 ?_
 refine any_done (by kernel_rfl) ?_
 refine hK2 _ _ ?_
 refine W.seq fun K11 hK11 => ?_
 refine W.sr fun K12 hK12 => ?_
 refine zE 2 (hK12 _ _ ?_)
 refine W.cond (decide (k_ < 4)) (by kernel_rfl) (fun h13 => ?_) (fun h13 => ?_)
 ·
  obtain ⟨h13p, hm⟩ := iY hm h13
  refine W.sr fun K14 hK14 => ?_
  refine zR 1 ?_
  obtain ⟨h15, hm⟩ := need_some hm
  refine zI _ (wrap_i64 h15.1 h15.2) ?_
  refine zR 1 ?_
  obtain ⟨h16, hm⟩ := need_some hm
  refine zI _ (wrap_i64 h16.1 h16.2) ?_
  refine zE 1 (hK14 _ _ ?_)
  refine W.ret (ret_seq ?_)
  obtain rfl := some_inj hm
  refine ret_of (zi ((r4 + 4) + k_)) (by kernel_rfl) ⟨_, ⟨rfl, rfl⟩, hs10⟩
 obtain ⟨h13p, hm⟩ := iN hm h13
 refine W.skip ?_
 refine hK11 _ _ ?_
 refine W.sr fun K17 hK17 => ?_
 refine zR 3 ?_
 refine zL ⟨mb, 0, none⟩ (zp vb) (cell_of_blk (hs10.old hmb) rfl) ?_
 refine zR 1 ?_
 obtain ⟨h18, hm⟩ := need_some hm
 refine zI _ (wrap_i64 h18.1 h18.2) ?_
 refine zC00 hs10 (rget_spec (at_ := (r4 + 8)) (hv := (refAt_old hs10 hv)) B _) fun w19 hs21 => ?_
 refine zE 1 (hK17 _ _ ?_)
 refine W.seq fun K22 hK22 => ?_
 refine W.sr fun K23 hK23 => ?_
 refine zE 2 (hK23 _ _ ?_)
 refine W.cond (decide ((vget img l (r4 + 8)) = 0)) (by kernel_rfl) (fun h24 => ?_) (fun h24 => ?_)
 ·
  obtain ⟨h24p, hm⟩ := iY hm h24
  refine W.sr fun K25 hK25 => ?_
  refine zE 1 (hK25 _ _ ?_)
  refine W.ret (ret_seq ?_)
  obtain rfl := some_inj hm
  refine ret_of (zi (-1)) (by kernel_rfl) ⟨_, ⟨rfl, rfl⟩, hs21⟩
 obtain ⟨h24p, hm⟩ := iN hm h24
 refine W.skip ?_
 refine hK22 _ _ ?_
 refine W.sr fun K26 hK26 => ?_
 refine zR 3 ?_
 refine zG ⟨mb, 1, none⟩ [(zi gw), (zi gi), (zi gb)] (cells_sub (hs21.old hmb) rfl) ?_
 refine zR 1 ?_
 obtain ⟨h27, hm⟩ := need_some hm
 refine zI _ (wrap_i64 h27.1 h27.2) ?_
 refine zC00 hs21 (rblockat_spec (gw := gw) (gi := gi) (gb := gb) (n_ := (vget img l (r4 + 8))) B _) fun w28 hs30 => ?_
 refine zR 1 ?_
 obtain ⟨h31, hm⟩ := need_some hm
 refine zI _ (wrap_i64 h31.1 h31.2) ?_
 obtain ⟨h32, hm⟩ := need_some hm
 refine zI _ (wrap_i64 h32.1 h32.2) ?_
 refine zR 1 ?_
 obtain ⟨r33, h34, hm⟩ := bind_some hm
 replace h34 := some_inj h34
 refine ops_set 4 (v := .int .i64 r33) (Eq.trans (by kernel_rfl) (congrArg (Value.int .i64) h34)) ?_
 refine zD (hK26 _ _ ?_)
 refine W.ret ?_
 obtain rfl := some_inj hm
 refine ret_of (zi r33) (by kernel_rfl) ⟨_, ⟨rfl, rfl⟩, hs30⟩
end Go.Proofs.YtmmclabkkigiaaaGreatDoor

set_option maxRecDepth 20000
set_option maxHeartbeats 4000000
namespace Go.Proofs.YtmmclabkkigiaaaGreatDoor
open Go Go.RowKit
def rtaken13_M (img : List Int) (l : List (Int × Int)) (gw : Int) (gi : Int) (gb : Int) (at_ : Int) : Option (Int × Int × List (Int × Int)) :=
 need ((img.length : Int) ≤ 1000000000000) <|
if May gw gi gb ∧ wordsOf gw gi gb ≤ (img.length : Int) then ((rtakeb_M img l gw gi gb (placeOf 7 gw gi gb 0)).bind fun r18 =>
if r18.2.1 = 0 then (if r18.1 = 0 then (some (0, 4, r18.2.2)) else (need (0 ≤ r18.1 ∧ r18.1 ≤ 18446744073709551615) <|
(some ((vwrite img r18.2.2 at_ r18.1).1)).bind fun r43 =>
if r43 = 0 then (some (r18.1, 0, (vwrite img r18.2.2 at_ r18.1).2)) else (some (0, r43, (vwrite img r18.2.2 at_ r18.1).2)))) else (some (0, r18.2.1, r18.2.2))) else (if (if May gw gi gb then (8 : Int) else 1) = 0 then (none) else ((some (if May gw gi gb then (8 : Int) else 1)).bind fun r65 =>
some (0, r65, l)))
theorem rtaken13_walk {img : List Int} {l : List (Int × Int)} {gw : Int} {gi : Int} {gb : Int} {n_ : Int} {at_ : Int} {mb vb : Nat} {r : Int × Int × List (Int × Int)} (B : Nat) (w : World) (hm : rtaken13_M img l gw gi gb at_ = some r) : Spec Tryz.prog 101 #[(zp mb), (zi at_)] B w [zb mb 127 [(zp vb), (zi gw), (zi gi), (zi gb), (zi n_)], refA (ptr vb) img l] (fun v H' => v = (.tuple #[(zi r.1), (zi r.2.1)]) ∧ H' = [zb mb 127 [(zp vb), (zi gw), (zi gi), (zi gb), (zi n_)], refA (ptr vb) img r.2.2]) := by
 refine spec_W Tryz.func101 rfl fun l0 hs => ?_
 unfold rtaken13_M at hm
 refine W.sr fun K1 hK1 => ?_
 refine zE 2 (hK1 _ _ ?_)
 refine W.seq fun K2 hK2 => ?_
 have hs3 := hs.drew
 refine W.regionD [(0, 0), (1, 1), (2, 2), (4, 4), (0, 0), (16, 16), (32, 32), (64, 64), (136, 136), (256, 256), (512, 512), (512, 512), (2047, 1024), (8191, 2048)] (fun w_ => St B w l0 w_ [zb mb 127 [(zp vb), (zi gw), (zi gi), (zi gb), (zi n_)], refA (ptr vb) img l]) (by kernel_rfl) hs3 ?_
 refine zA (zp mb) 0 hs3 ?_
 refine zA (zp mb) 1 hs3 ?_
 refine zA (zp mb) 2 hs3 ?_
 refine zB 3 ⟨mb, 0, none⟩ (zp vb) (fun _ hS_ => (hS_.cellAt 0 rfl rfl)) hs3 ?_
 refine zA (zp mb) 4 hs3 ?_
 refine zA (zp mb) 5 hs3 ?_
 refine zA (.pointer (some ⟨mb, 1, none⟩)) 6 hs3 ?_
 refine any_R 7 (by kernel_rfl) (fun _ hS_ => runs_loadAgg (ad := ⟨mb, 1, none⟩) (cs := [(zi gw), (zi gi), (zi gb)]) (by kernel_rfl) (cells_sub (hS_.heapAt 0 rfl) rfl)) hs3 ?_
 refine any_step 8 (by kernel_rfl) (by kernel_rfl) ?_
 obtain ⟨h4, hm⟩ := need_some hm
 rcases Bool.eq_false_or_eq_true (decide (May gw gi gb ∧ wordsOf gw gi gb ≤ (img.length : Int))) with h5 | h5
 ·
  obtain ⟨h5p, hm⟩ := iY hm h5
  refine ops_call0 hs3 (by kernel_rfl) (rnew_ok (gw := gw) (gi := gi) (gb := gb) (hv := (hs3.entAt 1 rfl refA_at)) (hz := h4) (hP := h5p) B _) ?_
  rintro _ _ w9 ⟨b6, b7, b8, rfl, rfl⟩ hs10
  have hs11 := St.ap3 hs10
  have hs12 := St.f4 hs11
  have hs13 := St.f4 hs12
  have hs14 := St.tk2 hs13
  refine ops_done (by kernel_rfl) ⟨hs14, ?_⟩
  refine zA (.tuple #[(zp b6), (zi 0)]) 9 hs14 ?_
  refine zA (zp b6) 10 hs14 ?_
  refine zA (zi 0) 11 hs14 ?_
  refine zA (zp b6) 12 hs14 ?_
  refine zA (zi 0) 13 hs14 ?_
  refine any_done (by kernel_rfl) ?_
  refine hK2 _ _ ?_
  refine W.seq fun K15 hK15 => ?_
  refine W.sr fun K16 hK16 => ?_
  refine zE 2 (hK16 _ _ ?_)
  refine W.cond_false false (by kernel_rfl) rfl ?_
  refine W.skip ?_
  refine hK15 _ _ ?_
  refine W.sr fun K17 hK17 => ?_
  refine zR 1 ?_
  obtain ⟨r18, h19, hm⟩ := bind_some hm
  have hs20 := St.f4 hs11
  have hs21 := St.f3 hs20
  have hs22 := St.f3 hs21
  have hs23 := St.f3 hs22
  refine ops_call4 hs23 (by kernel_rfl) (rtakeb_walk (ab := b6) (ib := b7) (bb := b8) (vb := vb) (img := img) (l := l) (gw := gw) (gi := gi) (gb := gb) (ia := (placeOf 6 gw gi gb 0)) (ba := (placeOf 7 gw gi gb 0)) (hm := h19) B _) ?_
  rintro _ _ w24 ⟨rfl, rfl⟩ hs25
  have hs26 := St.ap4 hs25
  refine zE 5 (hK17 _ _ ?_)
  refine W.seq fun K27 hK27 => ?_
  refine W.sr fun K28 hK28 => ?_
  refine zE 2 (hK28 _ _ ?_)
  refine W.cond (!decide (r18.2.1 = 0)) (by kernel_rfl) (fun h29 => ?_) (fun h29 => ?_)
  rotate_left
  ·
   have h29p : r18.2.1 = 0 := of_decide_eq_true (bnot_false h29)
   replace hm := ite_yes hm h29p
   refine W.skip ?_
   refine hK27 _ _ ?_
   refine W.seq fun K30 hK30 => ?_
   refine W.sr fun K31 hK31 => ?_
   refine zE 2 (hK31 _ _ ?_)
   refine W.cond (decide (r18.1 = 0)) (by kernel_rfl) (fun h32 => ?_) (fun h32 => ?_)
   ·
    obtain ⟨h32p, hm⟩ := iY hm h32
    refine W.sr fun K33 hK33 => ?_
    refine zE 2 (hK33 _ _ ?_)
    refine W.ret (ret_seq ?_)
    obtain rfl := some_inj hm
    have hs34 := St.f3 hs26
    have hs35 := St.f4 hs34
    have hs36 := St.tk2 hs35
    refine ret_of (.tuple #[(zi 0), (zi 4)]) (by kernel_rfl) ⟨_, ⟨rfl, rfl⟩, hs36⟩
   obtain ⟨h32p, hm⟩ := iN hm h32
   refine W.skip ?_
   refine hK30 _ _ ?_
   refine W.sr fun K37 hK37 => ?_
   refine zR 3 ?_
   refine zL ⟨mb, 0, none⟩ (zp vb) (hs26.cellAt 4 rfl rfl) ?_
   refine zR 2 ?_
   obtain ⟨h38, hm⟩ := need_some hm
   refine zI _ (wrap_u64 h38.1 (Int.lt_of_le_of_lt h38.2 (by decide))) ?_
   have hs39 := St.f3 hs26
   refine zC11 hs39 (rset_spec (b := vb) (img := img) (l := r18.2.2) (at_ := at_) (x_ := r18.1) B _) fun w40 hs42 => ?_
   refine zR 1 ?_
   obtain ⟨r43, h44, hm⟩ := bind_some hm
   replace h44 := some_inj h44
   refine ops_set 7 (v := .int .i64 r43) (Eq.trans (by kernel_rfl) (congrArg (Value.int .i64) h44)) ?_
   refine zD (hK37 _ _ ?_)
   refine W.seq fun K45 hK45 => ?_
   refine W.sr fun K46 hK46 => ?_
   refine zE 2 (hK46 _ _ ?_)
   refine W.cond (!decide (r43 = 0)) (by kernel_rfl) (fun h47 => ?_) (fun h47 => ?_)
   rotate_left
   ·
    have h47p : r43 = 0 := of_decide_eq_true (bnot_false h47)
    replace hm := ite_yes hm h47p
    refine W.skip ?_
    refine hK45 _ _ ?_
    refine W.sr fun K48 hK48 => ?_
    refine zE 3 (hK48 _ _ ?_)
    refine W.ret ?_
    obtain rfl := some_inj hm
    have hs49 := St.f4 hs42
    have hs50 := St.tk2 hs49
    refine ret_of (.tuple #[(zi r18.1), (zi 0)]) (by kernel_rfl) ⟨_, ⟨rfl, rfl⟩, hs50⟩
   have h47p : ¬ (r43 = 0) := of_decide_eq_false (bnot_true h47)
   replace hm := ite_no hm h47p
   refine W.sr fun K51 hK51 => ?_
   refine zE 3 (hK51 _ _ ?_)
   refine W.ret (ret_seq ?_)
   obtain rfl := some_inj hm
   have hs52 := St.f4 hs42
   have hs53 := St.tk2 hs52
   refine ret_of (.tuple #[(zi 0), (zi r43)]) (by kernel_rfl) ⟨_, ⟨rfl, rfl⟩, hs53⟩
  have h29p : ¬ (r18.2.1 = 0) := of_decide_eq_false (bnot_true h29)
  replace hm := ite_no hm h29p
  refine W.sr fun K54 hK54 => ?_
  refine zE 3 (hK54 _ _ ?_)
  refine W.ret (ret_seq ?_)
  obtain rfl := some_inj hm
  have hs55 := St.f3 hs26
  have hs56 := St.f4 hs55
  have hs57 := St.tk2 hs56
  refine ret_of (.tuple #[(zi 0), (zi r18.2.1)]) (by kernel_rfl) ⟨_, ⟨rfl, rfl⟩, hs57⟩
 obtain ⟨h5p, hm⟩ := iN hm h5
 refine zC00 hs3 (rnew_err (gw := gw) (gi := gi) (gb := gb) (hv := (hs3.entAt 1 rfl refA_at)) (hz := h4) (hN := h5p) B _) fun w58 hs60 => ?_
 refine ops_done (by kernel_rfl) ⟨hs60, ?_⟩
 refine zA (.tuple #[(.pointer none), (zi (if May gw gi gb then (8 : Int) else 1))]) 9 hs60 ?_
 refine zA (.pointer none) 10 hs60 ?_
 refine zA (zi (if May gw gi gb then (8 : Int) else 1)) 11 hs60 ?_
 refine zA (.pointer none) 12 hs60 ?_
 refine zA (zi (if May gw gi gb then (8 : Int) else 1)) 13 hs60 ?_
 refine any_done (by kernel_rfl) ?_
 refine hK2 _ _ ?_
 refine W.seq fun K61 hK61 => ?_
 refine W.sr fun K62 hK62 => ?_
 refine zE 2 (hK62 _ _ ?_)
 refine W.cond (!decide ((if May gw gi gb then (8 : Int) else 1) = 0)) (by kernel_rfl) (fun h63 => ?_) (fun h63 => ?_)
 rotate_left
 ·
  have h63p : (if May gw gi gb then (8 : Int) else 1) = 0 := of_decide_eq_true (bnot_false h63)
  exact absurd h63p (show ¬ ((if May gw gi gb then (8 : Int) else 1) = 0) by split <;> decide)
 have h63p : ¬ ((if May gw gi gb then (8 : Int) else 1) = 0) := of_decide_eq_false (bnot_true h63)
 replace hm := ite_no hm h63p
 refine W.sr fun K64 hK64 => ?_
 refine zR 3 ?_
 obtain ⟨r65, h66, hm⟩ := bind_some hm
 replace h66 := some_inj h66
 refine ops_set 5 (v := .int .i64 r65) (Eq.trans (by kernel_rfl) (congrArg (Value.int .i64) h66)) ?_
 refine zD (hK64 _ _ ?_)
 refine W.ret (ret_seq ?_)
 obtain rfl := some_inj hm
 refine ret_of (.tuple #[(zi 0), (zi r65)]) (by kernel_rfl) ⟨_, ⟨rfl, rfl⟩, hs60⟩
def rgiven13_M (img : List Int) (l : List (Int × Int)) (gw : Int) (gi : Int) (gb : Int) (at_ : Int) (b_ : Int) : Option (Int × List (Int × Int)) :=
 need ((img.length : Int) ≤ 1000000000000) <|
if May gw gi gb ∧ wordsOf gw gi gb ≤ (img.length : Int) then ((rgiveb_M img l gb (placeOf 7 gw gi gb 0) b_).bind fun r18 =>
if r18.1 = 0 then ((some ((vwrite img r18.2 at_ 0).1)).bind fun r35 =>
some (r35, (vwrite img r18.2 at_ 0).2)) else (some (r18.1, r18.2))) else (if (if May gw gi gb then (8 : Int) else 1) = 0 then (none) else ((some (if May gw gi gb then (8 : Int) else 1)).bind fun r50 =>
some (r50, l)))
theorem rgiven13_walk {img : List Int} {l : List (Int × Int)} {gw : Int} {gi : Int} {gb : Int} {n_ : Int} {at_ : Int} {b_ : Int} {mb vb : Nat} {r : Int × List (Int × Int)} (B : Nat) (w : World) (hm : rgiven13_M img l gw gi gb at_ b_ = some r) : Spec Tryz.prog 103 #[(zp mb), (zi at_), (zi b_)] B w [zb mb 127 [(zp vb), (zi gw), (zi gi), (zi gb), (zi n_)], refA (ptr vb) img l] (fun v H' => v = (zi r.1) ∧ H' = [zb mb 127 [(zp vb), (zi gw), (zi gi), (zi gb), (zi n_)], refA (ptr vb) img r.2]) := by
 refine spec_W Tryz.func103 rfl fun l0 hs => ?_
 unfold rgiven13_M at hm
 refine W.sr fun K1 hK1 => ?_
 refine zE 1 (hK1 _ _ ?_)
 refine W.seq fun K2 hK2 => ?_
 have hs3 := hs.drew
 refine W.regionD [(0, 0), (1, 1), (2, 2), (4, 4), (0, 0), (16, 16), (32, 32), (64, 64), (136, 136), (256, 256), (512, 512), (512, 512), (2047, 1024), (8191, 2048)] (fun w_ => St B w l0 w_ [zb mb 127 [(zp vb), (zi gw), (zi gi), (zi gb), (zi n_)], refA (ptr vb) img l]) (by kernel_rfl) hs3 ?_
 refine zA (zp mb) 0 hs3 ?_
 refine zA (zp mb) 1 hs3 ?_
 refine zA (zp mb) 2 hs3 ?_
 refine zB 3 ⟨mb, 0, none⟩ (zp vb) (fun _ hS_ => (hS_.cellAt 0 rfl rfl)) hs3 ?_
 refine zA (zp mb) 4 hs3 ?_
 refine zA (zp mb) 5 hs3 ?_
 refine zA (.pointer (some ⟨mb, 1, none⟩)) 6 hs3 ?_
 refine any_R 7 (by kernel_rfl) (fun _ hS_ => runs_loadAgg (ad := ⟨mb, 1, none⟩) (cs := [(zi gw), (zi gi), (zi gb)]) (by kernel_rfl) (cells_sub (hS_.heapAt 0 rfl) rfl)) hs3 ?_
 refine any_step 8 (by kernel_rfl) (by kernel_rfl) ?_
 obtain ⟨h4, hm⟩ := need_some hm
 rcases Bool.eq_false_or_eq_true (decide (May gw gi gb ∧ wordsOf gw gi gb ≤ (img.length : Int))) with h5 | h5
 ·
  obtain ⟨h5p, hm⟩ := iY hm h5
  refine ops_call0 hs3 (by kernel_rfl) (rnew_ok (gw := gw) (gi := gi) (gb := gb) (hv := (hs3.entAt 1 rfl refA_at)) (hz := h4) (hP := h5p) B _) ?_
  rintro _ _ w9 ⟨b6, b7, b8, rfl, rfl⟩ hs10
  have hs11 := St.ap3 hs10
  have hs12 := St.f4 hs11
  have hs13 := St.f4 hs12
  have hs14 := St.tk2 hs13
  refine ops_done (by kernel_rfl) ⟨hs14, ?_⟩
  refine zA (.tuple #[(zp b6), (zi 0)]) 9 hs14 ?_
  refine zA (zp b6) 10 hs14 ?_
  refine zA (zi 0) 11 hs14 ?_
  refine zA (zp b6) 12 hs14 ?_
  refine zA (zi 0) 13 hs14 ?_
  refine any_done (by kernel_rfl) ?_
  refine hK2 _ _ ?_
  refine W.seq fun K15 hK15 => ?_
  refine W.sr fun K16 hK16 => ?_
  refine zE 2 (hK16 _ _ ?_)
  refine W.cond_false false (by kernel_rfl) rfl ?_
  refine W.skip ?_
  refine hK15 _ _ ?_
  refine W.sr fun K17 hK17 => ?_
  refine zR 2 ?_
  obtain ⟨r18, h19, hm⟩ := bind_some hm
  have hs20 := St.f4 hs11
  have hs21 := St.f3 hs20
  have hs22 := St.f3 hs21
  have hs23 := St.f3 hs22
  refine ops_call4 hs23 (by kernel_rfl) (rgiveb_walk (ab := b6) (ib := b7) (bb := b8) (vb := vb) (img := img) (l := l) (gw := gw) (gi := gi) (gb := gb) (ia := (placeOf 6 gw gi gb 0)) (ba := (placeOf 7 gw gi gb 0)) (n_ := b_) (hm := h19) B _) ?_
  rintro _ _ w24 ⟨rfl, rfl⟩ hs25
  have hs26 := St.ap4 hs25
  refine zE 1 (hK17 _ _ ?_)
  refine W.seq fun K27 hK27 => ?_
  refine W.sr fun K28 hK28 => ?_
  refine zE 2 (hK28 _ _ ?_)
  refine W.cond (!decide (r18.1 = 0)) (by kernel_rfl) (fun h29 => ?_) (fun h29 => ?_)
  rotate_left
  ·
   have h29p : r18.1 = 0 := of_decide_eq_true (bnot_false h29)
   replace hm := ite_yes hm h29p
   refine W.skip ?_
   refine hK27 _ _ ?_
   refine W.sr fun K30 hK30 => ?_
   refine zR 3 ?_
   refine zL ⟨mb, 0, none⟩ (zp vb) (hs26.cellAt 4 rfl rfl) ?_
   refine zR 1 ?_
   have hs31 := St.f3 hs26
   refine zC11 hs31 (rset_spec (b := vb) (img := img) (l := r18.2) (at_ := at_) (x_ := 0) B _) fun w32 hs34 => ?_
   refine zR 1 ?_
   obtain ⟨r35, h36, hm⟩ := bind_some hm
   replace h36 := some_inj h36
   refine ops_set 6 (v := .int .i64 r35) (Eq.trans (by kernel_rfl) (congrArg (Value.int .i64) h36)) ?_
   refine zD (hK30 _ _ ?_)
   refine W.ret ?_
   obtain rfl := some_inj hm
   have hs37 := St.f4 hs34
   have hs38 := St.tk2 hs37
   refine ret_of (zi r35) (by kernel_rfl) ⟨_, ⟨rfl, rfl⟩, hs38⟩
  have h29p : ¬ (r18.1 = 0) := of_decide_eq_false (bnot_true h29)
  replace hm := ite_no hm h29p
  refine W.sr fun K39 hK39 => ?_
  refine zE 2 (hK39 _ _ ?_)
  refine W.ret (ret_seq ?_)
  obtain rfl := some_inj hm
  have hs40 := St.f3 hs26
  have hs41 := St.f4 hs40
  have hs42 := St.tk2 hs41
  refine ret_of (zi r18.1) (by kernel_rfl) ⟨_, ⟨rfl, rfl⟩, hs42⟩
 obtain ⟨h5p, hm⟩ := iN hm h5
 refine zC00 hs3 (rnew_err (gw := gw) (gi := gi) (gb := gb) (hv := (hs3.entAt 1 rfl refA_at)) (hz := h4) (hN := h5p) B _) fun w43 hs45 => ?_
 refine ops_done (by kernel_rfl) ⟨hs45, ?_⟩
 refine zA (.tuple #[(.pointer none), (zi (if May gw gi gb then (8 : Int) else 1))]) 9 hs45 ?_
 refine zA (.pointer none) 10 hs45 ?_
 refine zA (zi (if May gw gi gb then (8 : Int) else 1)) 11 hs45 ?_
 refine zA (.pointer none) 12 hs45 ?_
 refine zA (zi (if May gw gi gb then (8 : Int) else 1)) 13 hs45 ?_
 refine any_done (by kernel_rfl) ?_
 refine hK2 _ _ ?_
 refine W.seq fun K46 hK46 => ?_
 refine W.sr fun K47 hK47 => ?_
 refine zE 2 (hK47 _ _ ?_)
 refine W.cond (!decide ((if May gw gi gb then (8 : Int) else 1) = 0)) (by kernel_rfl) (fun h48 => ?_) (fun h48 => ?_)
 rotate_left
 ·
  have h48p : (if May gw gi gb then (8 : Int) else 1) = 0 := of_decide_eq_true (bnot_false h48)
  exact absurd h48p (show ¬ ((if May gw gi gb then (8 : Int) else 1) = 0) by split <;> decide)
 have h48p : ¬ ((if May gw gi gb then (8 : Int) else 1) = 0) := of_decide_eq_false (bnot_true h48)
 replace hm := ite_no hm h48p
 refine W.sr fun K49 hK49 => ?_
 refine zR 2 ?_
 obtain ⟨r50, h51, hm⟩ := bind_some hm
 replace h51 := some_inj h51
 refine ops_set 6 (v := .int .i64 r50) (Eq.trans (by kernel_rfl) (congrArg (Value.int .i64) h51)) ?_
 refine zD (hK49 _ _ ?_)
 refine W.ret (ret_seq ?_)
 obtain rfl := some_inj hm
 refine ret_of (zi r50) (by kernel_rfl) ⟨_, ⟨rfl, rfl⟩, hs45⟩
end Go.Proofs.YtmmclabkkigiaaaGreatDoor

set_option maxRecDepth 20000
set_option maxHeartbeats 2000000
namespace Go.Proofs.YtmmclabkkigiaaaGreatDoor
open Go Go.RowKit
def rat13_J1 (img : List Int) (l : List (Int × Int)) (gw : Int) (gi : Int) (gb : Int) (n_ : Int) (k_ : Int) (p8 : Int) : Option (Int × Int) :=
 if p8 = 0 then ((rword13_M img l gw gi gb n_ k_).bind fun r15 =>
if r15 < 0 then (some (0, 0)) else (need (0 ≤ gb ∧ gb ≤ 18446744073709551615) <|
if (vget img l r15) ≥ gb then (some (0, 4)) else (need (-9223372036854775808 ≤ (vget img l r15) ∧ (vget img l r15) ≤ 9223372036854775807) <|
some ((vget img l r15), 0)))) else (some (0, p8))
def rat13_M (img : List Int) (l : List (Int × Int)) (gw : Int) (gi : Int) (gb : Int) (n_ : Int) (k_ : Int) : Option (Int × Int) :=
 if k_ < 0 then (some (0, 1)) else (if k_ ≥ 12 then (some (0, 1)) else ((some (igetM img l gw gi gb n_)).bind fun r37 =>
rat13_J1 img l gw gi gb n_ k_ r37.2))
theorem rat13_walk {img : List Int} {l : List (Int × Int)} {gw : Int} {gi : Int} {gb : Int} {n_ : Int} {k_ : Int} {mb vb : Nat} {r : Int × Int} (B : Nat) (w : World) (hmb : w.heap[mb]? = some (.cells [(zp vb), (zi gw), (zi gi), (zi gb), (zi n_)].toArray 127 (0, 0))) (hv : RefAt (ptr vb) img l w) (hm : rat13_M img l gw gi gb n_ k_ = some r) : Spec Tryz.prog 65 #[(zp mb), (zi k_)] B w [] (fun v H' => v = (.tuple #[(zi r.1), (zi r.2)]) ∧ H' = []) := by
 refine spec_Q Tryz.func65 rfl fun hs => ?_
 unfold rat13_M at hm
 refine W.sr fun K1 hK1 => ?_
 refine zE 2 (hK1 _ _ ?_)
 refine W.seq fun K2 hK2 => ?_
 refine W.sr fun K3 hK3 => ?_
 refine zR 3 ?_
 rcases Bool.eq_false_or_eq_true (decide (k_ < 0)) with h4 | h4
 ·
  obtain ⟨h4p, hm⟩ := iY hm h4
  refine zS 12 h4 ?_
  refine zS 11 h4 ?_
  refine zE 3 (hK3 _ _ ?_)
  refine W.cond_true true (by kernel_rfl) rfl ?_
  refine W.sr fun K5 hK5 => ?_
  refine zE 2 (hK5 _ _ ?_)
  refine W.ret (ret_seq ?_)
  obtain rfl := some_inj hm
  refine ret_of (.tuple #[(zi 0), (zi 1)]) (by kernel_rfl) ⟨_, ⟨rfl, rfl⟩, hs⟩
 obtain ⟨h4p, hm⟩ := iN hm h4
 refine zS 12 h4 ?_
 refine zS 11 h4 ?_
 refine zE 3 (hK3 _ _ ?_)
 refine W.cond (decide (k_ ≥ 12)) (by kernel_rfl) (fun h6 => ?_) (fun h6 => ?_)
 ·
  obtain ⟨h6p, hm⟩ := iY hm h6
  refine W.sr fun K7 hK7 => ?_
  refine zE 2 (hK7 _ _ ?_)
  refine W.ret (ret_seq ?_)
  obtain rfl := some_inj hm
  refine ret_of (.tuple #[(zi 0), (zi 1)]) (by kernel_rfl) ⟨_, ⟨rfl, rfl⟩, hs⟩
 obtain ⟨h6p, hm⟩ := iN hm h6
 refine W.skip ?_
 refine hK2 _ _ ?_
 refine W.seq_join (fun s_ w_ => ∃ (p8 : Int), (∃ us, s_ = slots 56 [(0, (zp mb)), (1, (zi k_)), (7, (zi p8))] us) ∧ St B w [] w_ [] ∧ rat13_J1 img l gw gi gb n_ k_ p8 = some r) ?_ ?_
 ·
  rintro _ w9 ⟨p8, ⟨us, rfl⟩, hs10, hm⟩
  unfold rat13_J1 at hm
  refine W.seq fun K11 hK11 => ?_
  refine W.sr fun K12 hK12 => ?_
  refine zE 2 (hK12 _ _ ?_)
  refine W.cond (!decide (p8 = 0)) (by kernel_rfl) (fun h13 => ?_) (fun h13 => ?_)
  rotate_left
  ·
   have h13p : p8 = 0 := of_decide_eq_true (bnot_false h13)
   replace hm := ite_yes hm h13p
   refine W.skip ?_
   refine hK11 _ _ ?_
   refine W.sr fun K14 hK14 => ?_
   refine zR 2 ?_
   obtain ⟨r15, h16, hm⟩ := bind_some hm
   refine zC00 hs10 (rword13_walk (k_ := k_) (img := img) (l := l) (gw := gw) (gi := gi) (gb := gb) (n_ := n_) (hmb := (hs10.old hmb)) (hv := (refAt_old hs10 hv)) (hm := h16) B _) fun w17 hs19 => ?_
   refine zE 1 (hK14 _ _ ?_)
   refine W.seq fun K20 hK20 => ?_
   refine W.sr fun K21 hK21 => ?_
   refine zE 2 (hK21 _ _ ?_)
   refine W.cond (decide (r15 < 0)) (by kernel_rfl) (fun h22 => ?_) (fun h22 => ?_)
   ·
    obtain ⟨h22p, hm⟩ := iY hm h22
    refine W.sr fun K23 hK23 => ?_
    refine zE 2 (hK23 _ _ ?_)
    refine W.ret (ret_seq ?_)
    obtain rfl := some_inj hm
    refine ret_of (.tuple #[(zi 0), (zi 0)]) (by kernel_rfl) ⟨_, ⟨rfl, rfl⟩, hs19⟩
   obtain ⟨h22p, hm⟩ := iN hm h22
   refine W.skip ?_
   refine hK20 _ _ ?_
   refine W.sr fun K24 hK24 => ?_
   refine zR 3 ?_
   refine zL ⟨mb, 0, none⟩ (zp vb) (cell_of_blk (hs19.old hmb) rfl) ?_
   refine zR 1 ?_
   refine zC00 hs19 (rget_spec (at_ := r15) (hv := (refAt_old hs19 hv)) B _) fun w25 hs27 => ?_
   refine zE 1 (hK24 _ _ ?_)
   refine W.seq fun K28 hK28 => ?_
   refine W.sr fun K29 hK29 => ?_
   refine zR 5 ?_
   refine zL ⟨mb, 3, none⟩ (zi gb) (cell_of_blk (hs27.old hmb) rfl) ?_
   obtain ⟨h30, hm⟩ := need_some hm
   refine zI _ (wrap_u64 h30.1 (Int.lt_of_le_of_lt h30.2 (by decide))) ?_
   refine zE 1 (hK29 _ _ ?_)
   refine W.cond (decide ((vget img l r15) ≥ gb)) (by kernel_rfl) (fun h31 => ?_) (fun h31 => ?_)
   ·
    obtain ⟨h31p, hm⟩ := iY hm h31
    refine W.sr fun K32 hK32 => ?_
    refine zE 2 (hK32 _ _ ?_)
    refine W.ret (ret_seq ?_)
    obtain rfl := some_inj hm
    refine ret_of (.tuple #[(zi 0), (zi 4)]) (by kernel_rfl) ⟨_, ⟨rfl, rfl⟩, hs27⟩
   obtain ⟨h31p, hm⟩ := iN hm h31
   refine W.skip ?_
   refine hK28 _ _ ?_
   refine W.sr fun K33 hK33 => ?_
   refine zR 1 ?_
   obtain ⟨h34, hm⟩ := need_some hm
   refine zI _ (wrap_i64 h34.1 h34.2) ?_
   refine zE 2 (hK33 _ _ ?_)
   refine W.ret ?_
   obtain rfl := some_inj hm
   refine ret_of (.tuple #[(zi (vget img l r15)), (zi 0)]) (by kernel_rfl) ⟨_, ⟨rfl, rfl⟩, hs27⟩
  have h13p : ¬ (p8 = 0) := of_decide_eq_false (bnot_true h13)
  replace hm := ite_no hm h13p
  refine W.sr fun K35 hK35 => ?_
  refine zE 3 (hK35 _ _ ?_)
  refine W.ret (ret_seq ?_)
  obtain rfl := some_inj hm
  refine ret_of (.tuple #[(zi 0), (zi p8)]) (by kernel_rfl) ⟨_, ⟨rfl, rfl⟩, hs10⟩
 have hs36 := hs.drew
 refine W.regionD [(0, 0), (1, 1), (2, 2), (4, 4), (0, 0), (16, 16), (32, 32), (64, 64), (0, 0), (256, 256), (512, 512), (1024, 1024), (2184, 2184), (4096, 4096), (8192, 8192), (8192, 8192), (0, 0), (98303, 81920), (262143, 32768)] (fun w_ => St B w [] w_ []) (by kernel_rfl) hs36 ?_
 refine zA (zp mb) 0 hs36 ?_
 refine zA (zp mb) 1 hs36 ?_
 refine zA (zp mb) 2 hs36 ?_
 refine zB 3 ⟨mb, 0, none⟩ (zp vb) (fun _ hS_ => (cell_of_blk (hS_.old hmb) rfl)) hs36 ?_
 refine zA (zp mb) 4 hs36 ?_
 refine zA (zp mb) 5 hs36 ?_
 refine zA (.pointer (some ⟨mb, 1, none⟩)) 6 hs36 ?_
 refine any_R 7 (by kernel_rfl) (fun _ hS_ => runs_loadAgg (ad := ⟨mb, 1, none⟩) (cs := [(zi gw), (zi gi), (zi gb)]) (by kernel_rfl) (cells_sub (hS_.old hmb) rfl)) hs36 ?_
 refine zA (zp mb) 8 hs36 ?_
 refine zA (zp mb) 9 hs36 ?_
 refine zA (.pointer (some ⟨mb, 4, none⟩)) 10 hs36 ?_
 refine zB 11 ⟨mb, 4, none⟩ (zi n_) (fun _ hS_ => (cell_of_blk (hS_.old hmb) rfl)) hs36 ?_
 refine any_step2 12 16 (by kernel_rfl) (by kernel_rfl) (by kernel_rfl) ?_ ?_
 ·
  obtain ⟨r37, h38, hm⟩ := bind_some hm
  replace h38 := some_inj h38
  refine ops_call0 hs36 (by kernel_rfl) (rg_spec (gw := gw) (gi := gi) (gb := gb) (n_ := n_) (hv := (refAt_old hs36 hv)) B _) ?_
  rintro _ _ w39 ⟨hv41, hH42⟩ hs40
  rw [h38] at hv41
  try rw [h38] at hH42
  subst hv41 hH42
  have hs43 := St.ap0 hs40
  refine ops_done (by kernel_rfl) ⟨hs43, ?_⟩
  refine zA (.tuple #[(.agg #[(zu r37.1.k), (zu r37.1.l), (zu r37.1.o), (zu r37.1.s), (zu r37.1.a), (zu r37.1.b), (zu r37.1.c), (zu r37.1.d), (zu r37.1.e), (zu r37.1.m)]), (zi r37.2)]) 13 hs43 ?_
  refine zA (.agg #[(zu r37.1.k), (zu r37.1.l), (zu r37.1.o), (zu r37.1.s), (zu r37.1.a), (zu r37.1.b), (zu r37.1.c), (zu r37.1.d), (zu r37.1.e), (zu r37.1.m)]) 14 hs43 ?_
  refine zA (zi r37.2) 15 hs43 ?_
  refine any_step 16 (by kernel_rfl) (by kernel_rfl) ?_
  refine zN [(zu 0), (zu 0), (zu 0), (zu 0), (zu 0), (zu 0), (zu 0), (zu 0), (zu 0), (zu 0)] 170 hs43 fun b46 w44 hs45 => ?_
  have hs47 := St.tk0 hs45
  refine ops_done (by kernel_rfl) ⟨hs47, ?_⟩
  refine any_step 17 (by kernel_rfl) (by kernel_rfl) ?_
  refine zT 0 [(zu r37.1.k), (zu r37.1.l), (zu r37.1.o), (zu r37.1.s), (zu r37.1.a), (zu r37.1.b), (zu r37.1.c), (zu r37.1.d), (zu r37.1.e), (zu r37.1.m)] [(zu r37.1.k), (zu r37.1.l), (zu r37.1.o), (zu r37.1.s), (zu r37.1.a), (zu r37.1.b), (zu r37.1.c), (zu r37.1.d), (zu r37.1.e), (zu r37.1.m)] hs45 fun w48 hs50 => ?_
  have hs51 := St.tk0 hs50
  refine ops_done (by kernel_rfl) ⟨hs51, ?_⟩
  refine zA (zi r37.2) 18 hs51 ?_
  refine any_done (by kernel_rfl) ?_
  have hs52 := St.tk0 hs50
  exact ⟨r37.2, slots_intro _ (by kernel_rfl), hs52, hm⟩
 refine zN [(zu 0), (zu 0), (zu 0), (zu 0), (zu 0), (zu 0), (zu 0), (zu 0), (zu 0), (zu 0)] 170 hs36 fun b55 w53 hs54 => ?_
 have hs56 := St.tk0 hs54
 refine ops_done (by kernel_rfl) ⟨hs56, ?_⟩
 refine any_step 12 (by kernel_rfl) (by kernel_rfl) ?_
 obtain ⟨r57, h58, hm⟩ := bind_some hm
 replace h58 := some_inj h58
 refine ops_call0 hs54 (by kernel_rfl) (rg_spec (gw := gw) (gi := gi) (gb := gb) (n_ := n_) (hv := (refAt_old hs54 hv)) B _) ?_
 rintro _ _ w59 ⟨hv61, hH62⟩ hs60
 rw [h58] at hv61
 try rw [h58] at hH62
 subst hv61 hH62
 have hs63 := St.ap0 hs60
 have hs64 := St.tk0 hs63
 refine ops_done (by kernel_rfl) ⟨hs64, ?_⟩
 refine zA (.tuple #[(.agg #[(zu r57.1.k), (zu r57.1.l), (zu r57.1.o), (zu r57.1.s), (zu r57.1.a), (zu r57.1.b), (zu r57.1.c), (zu r57.1.d), (zu r57.1.e), (zu r57.1.m)]), (zi r57.2)]) 13 hs64 ?_
 refine zA (.agg #[(zu r57.1.k), (zu r57.1.l), (zu r57.1.o), (zu r57.1.s), (zu r57.1.a), (zu r57.1.b), (zu r57.1.c), (zu r57.1.d), (zu r57.1.e), (zu r57.1.m)]) 14 hs64 ?_
 refine zA (zi r57.2) 15 hs64 ?_
 refine any_step 17 (by kernel_rfl) (by kernel_rfl) ?_
 refine zT 0 [(zu r57.1.k), (zu r57.1.l), (zu r57.1.o), (zu r57.1.s), (zu r57.1.a), (zu r57.1.b), (zu r57.1.c), (zu r57.1.d), (zu r57.1.e), (zu r57.1.m)] [(zu r57.1.k), (zu r57.1.l), (zu r57.1.o), (zu r57.1.s), (zu r57.1.a), (zu r57.1.b), (zu r57.1.c), (zu r57.1.d), (zu r57.1.e), (zu r57.1.m)] hs63 fun w65 hs67 => ?_
 have hs68 := St.tk0 hs67
 refine ops_done (by kernel_rfl) ⟨hs68, ?_⟩
 refine zA (zi r57.2) 18 hs68 ?_
 refine any_done (by kernel_rfl) ?_
 have hs69 := St.tk0 hs67
 exact ⟨r57.2, slots_intro _ (by kernel_rfl), hs69, hm⟩
end Go.Proofs.YtmmclabkkigiaaaGreatDoor

set_option maxRecDepth 20000
set_option maxHeartbeats 2000000
namespace Go.Proofs.YtmmclabkkigiaaaGreatDoor
open Go Go.RowKit
def rneed13_M (img : List Int) (l : List (Int × Int)) (gw : Int) (gi : Int) (gb : Int) (n_ : Int) (k_ : Int) : Option (Int) :=
 (rat13_M img l gw gi gb n_ k_).bind fun r3 =>
if r3.2 = 0 then (if r3.1 = 0 then ((rword13_M img l gw gi gb n_ k_).bind fun r14 =>
if r14 < 0 then (some 2) else (some 1)) else (some 0)) else (some 0)
theorem rneed13_walk {img : List Int} {l : List (Int × Int)} {gw : Int} {gi : Int} {gb : Int} {n_ : Int} {k_ : Int} {mb vb : Nat} {r : Int} (B : Nat) (w : World) (hmb : w.heap[mb]? = some (.cells [(zp vb), (zi gw), (zi gi), (zi gb), (zi n_)].toArray 127 (0, 0))) (hv : RefAt (ptr vb) img l w) (hm : rneed13_M img l gw gi gb n_ k_ = some r) : Spec Tryz.prog 68 #[(zp mb), (zi k_)] B w [] (fun v H' => v = (zi r) ∧ H' = []) := by
 refine spec_Q Tryz.func68 rfl fun hs => ?_
 unfold rneed13_M at hm
 refine W.sr fun K1 hK1 => ?_
 refine zE 1 (hK1 _ _ ?_)
 refine W.sr fun K2 hK2 => ?_
 refine zR 2 ?_
 obtain ⟨r3, h4, hm⟩ := bind_some hm
 refine zC00 hs (rat13_walk (k_ := k_) (img := img) (l := l) (gw := gw) (gi := gi) (gb := gb) (n_ := n_) (hmb := (hs.old hmb)) (hv := (refAt_old hs hv)) (hm := h4) B _) fun w5 hs7 => ?_
 refine zE 5 (hK2 _ _ ?_)
 refine W.seq fun K8 hK8 => ?_
 refine W.sr fun K9 hK9 => ?_
 refine zR 3 ?_
 rcases Bool.eq_false_or_eq_true (!decide (r3.2 = 0)) with h10 | h10
 rotate_left
 ·
  have h10p : r3.2 = 0 := of_decide_eq_true (bnot_false h10)
  replace hm := ite_yes hm h10p
  refine zS 15 h10 ?_
  refine zS 14 h10 ?_
  refine zE 3 (hK9 _ _ ?_)
  refine W.cond (!decide (r3.1 = 0)) (by kernel_rfl) (fun h11 => ?_) (fun h11 => ?_)
  rotate_left
  ·
   have h11p : r3.1 = 0 := of_decide_eq_true (bnot_false h11)
   replace hm := ite_yes hm h11p
   refine W.skip ?_
   refine hK8 _ _ ?_
   refine W.seq fun K12 hK12 => ?_
   refine W.sr fun K13 hK13 => ?_
   refine zR 2 ?_
   obtain ⟨r14, h15, hm⟩ := bind_some hm
   refine zC00 hs7 (rword13_walk (k_ := k_) (img := img) (l := l) (gw := gw) (gi := gi) (gb := gb) (n_ := n_) (hmb := (hs7.old hmb)) (hv := (refAt_old hs7 hv)) (hm := h15) B _) fun w16 hs18 => ?_
   refine zE 1 (hK13 _ _ ?_)
   refine W.cond (decide (r14 < 0)) (by kernel_rfl) (fun h19 => ?_) (fun h19 => ?_)
   ·
    obtain ⟨h19p, hm⟩ := iY hm h19
    refine W.sr fun K20 hK20 => ?_
    refine zE 1 (hK20 _ _ ?_)
    refine W.ret (ret_seq ?_)
    obtain rfl := some_inj hm
    refine ret_of (zi 2) (by kernel_rfl) ⟨_, ⟨rfl, rfl⟩, hs18⟩
   obtain ⟨h19p, hm⟩ := iN hm h19
   refine W.skip ?_
   refine hK12 _ _ ?_
   refine W.sr fun K21 hK21 => ?_
   refine zE 1 (hK21 _ _ ?_)
   refine W.ret ?_
   obtain rfl := some_inj hm
   refine ret_of (zi 1) (by kernel_rfl) ⟨_, ⟨rfl, rfl⟩, hs18⟩
  have h11p : ¬ (r3.1 = 0) := of_decide_eq_false (bnot_true h11)
  replace hm := ite_no hm h11p
  refine W.sr fun K22 hK22 => ?_
  refine zE 1 (hK22 _ _ ?_)
  refine W.ret (ret_seq ?_)
  obtain rfl := some_inj hm
  refine ret_of (zi 0) (by kernel_rfl) ⟨_, ⟨rfl, rfl⟩, hs7⟩
 have h10p : ¬ (r3.2 = 0) := of_decide_eq_false (bnot_true h10)
 replace hm := ite_no hm h10p
 refine zS 15 h10 ?_
 refine zS 14 h10 ?_
 refine zE 3 (hK9 _ _ ?_)
 refine W.cond_true true (by kernel_rfl) rfl ?_
 refine W.sr fun K23 hK23 => ?_
 refine zE 1 (hK23 _ _ ?_)
 refine W.ret (ret_seq ?_)
 obtain rfl := some_inj hm
 refine ret_of (zi 0) (by kernel_rfl) ⟨_, ⟨rfl, rfl⟩, hs7⟩
end Go.Proofs.YtmmclabkkigiaaaGreatDoor
