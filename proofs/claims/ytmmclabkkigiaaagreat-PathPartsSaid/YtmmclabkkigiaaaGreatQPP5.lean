/- Texts, one behind the other: A5e, F5A, A5f, F3b, F5o, A5g, Zt, A6u, Zu, Ux, Sy, Ks, Uq, A8a, A8b, A8c, Ur, F8p, A8h, A8i, A8d, PPa. -/
import Derived.Shelf.Strings.OnBuilder
import Derived.Test.YtmmclabkkigiaaaGreatProg
import Derived.Laws.Concat
import Derived.Test.YtmmclabkkigiaaaGreatQPP4
set_option linter.unusedVariables false
set_option linter.unusedSimpArgs false
set_option maxRecDepth 20000
set_option maxHeartbeats 8000000
namespace Go.Proofs.YtmmclabkkigiaaaGreat
open Go Go.RowKit
def tentry_J4 (img : List Int) (l : List (Int × Int)) (r31 : Int) (r63 : ByteArray × Int) (p69 : Bool) : Option (ByteArray × Int × Int) :=
 if p69 = true then (some (ByteArray.empty, 0, 4)) else (need (-9223372036854775808 ≤ (vget img l r31) ∧ (vget img l r31) ≤ 9223372036854775807) <|
some (r63.1, (vget img l r31), 0))
def tentry_J3 (img : List Int) (l : List (Int × Int)) (r31 : Int) (q58 : List Int) : Option (ByteArray × Int × Int) :=
 need (-9223372036854775808 ≤ (vget img l (r31 + 1)) ∧ (vget img l (r31 + 1)) ≤ 9223372036854775807) <|
(unpack_M q58 (vget img l (r31 + 1))).bind fun r63 =>
if r63.2 = 0 then ((emay_M r63.1).bind fun r89 =>
tentry_J4 img l r31 r63 (!r89)) else (tentry_J4 img l r31 r63 true)
def tentry_B0 (img : List Int) (l : List (Int × Int)) (r31 : Int) (k99 : ((List Int) × Int) → Option (ByteArray × Int × Int)) (q97 : List Int) (p98 : Int) : Option (ByteArray × Int × Int) :=
 if p98 < 8 then (need (-9223372036854775808 ≤ (r31 + p98) ∧ (r31 + p98) ≤ 9223372036854775807) <|
need (q97.length + 1 ≤ 1000000000) <|
need (-9223372036854775808 ≤ (p98 + 1) ∧ (p98 + 1) ≤ 9223372036854775807) <|
k99 ((q97 ++ [(vget img l (r31 + p98))]), (p98 + 1))) else (tentry_J3 img l r31 q97)
def tentry_J2 (img : List Int) (l : List (Int × Int)) (k_ : Int) (r31 : Int) (p43 : Bool) : Option (ByteArray × Int × Int) :=
 if p43 = true then (some (ByteArray.empty, 0, 4)) else (iter (fun k_ s_ => tentry_B0 img l r31 k_ s_.1 s_.2) FUEL ([], 2))
def tentry_J1 (img : List Int) (l : List (Int × Int)) (gw : Int) (gi : Int) (gb : Int) (k_ : Int) (r9 : Int × Int) (p15 : Bool) : Option (ByteArray × Int × Int) :=
 if p15 = true then (some (ByteArray.empty, 0, r9.2)) else ((some (placeOf 9 gw gi gb r9.1)).bind fun r31 =>
need (-9223372036854775808 ≤ (r31 + 1) ∧ (r31 + 1) ≤ 9223372036854775807) <|
if (vget img l r31) < 1 then (tentry_J2 img l k_ r31 true) else (need (0 ≤ gi ∧ gi ≤ 18446744073709551615) <|
if (vget img l r31) ≥ gi then (tentry_J2 img l k_ r31 true) else (tentry_J2 img l k_ r31 (decide ((vget img l (r31 + 1)) > 40)))))
def tentry_M (img : List Int) (l : List (Int × Int)) (gw : Int) (gi : Int) (gb : Int) (n_ : Int) (k_ : Int) : Option (ByteArray × Int × Int) :=
 (bat_M img l gw gi gb n_ k_).bind fun r9 =>
if r9.2 = 0 then (tentry_J1 img l gw gi gb k_ r9 (decide (r9.1 = 0))) else (tentry_J1 img l gw gi gb k_ r9 true)
theorem tentry_walk {img : List Int} {l : List (Int × Int)} {gw : Int} {gi : Int} {gb : Int} {n_ : Int} {k_ : Int} {mb vb : Nat} {r : ByteArray × Int × Int} (B : Nat) (w : World) (hm : tentry_M img l gw gi gb n_ k_ = some r) : Spec Tryz.prog 75 #[(.agg #[(zp vb), (zi gw), (zi gi), (zi gb), (zp mb)]), (zi k_)] B w [zb mb 180 [(zp vb), (zi gw), (zi gi), (zi gb), (zi n_)], viewA (ptr vb) img l] (fun v H' => v = (.tuple #[(.agg #[(.string r.1), (zi r.2.1)]), (zi r.2.2)]) ∧ H' = [zb mb 180 [(zp vb), (zi gw), (zi gi), (zi gb), (zi n_)], viewA (ptr vb) img l]) := by
 refine spec_W Tryz.func75 rfl fun l0 hs => ?_
 unfold tentry_M at hm
 refine W.sr fun K1 hK1 => ?_
 refine zN [(zp vb), (zi gw), (zi gi), (zi gb), (zp mb)] 107 hs fun b4 w2 hs3 => ?_
 refine zN [(.string ByteArray.empty), (zi 0)] 59 hs3 fun b7 w5 hs6 => ?_
 refine zE 1 (hK1 _ _ ?_)
 refine W.sr fun K8 hK8 => ?_
 refine zR 1 ?_
 refine zL ⟨b4, 4, none⟩ (zp mb) (hs6.cellAt 1 rfl rfl) ?_
 refine zR 1 ?_
 obtain ⟨r9, h10, hm⟩ := bind_some hm
 refine zC00 hs6 (bat_walk (k_ := k_) (img := img) (l := l) (gw := gw) (gi := gi) (gb := gb) (n_ := n_) (hmb := (hs6.heapAt 2 rfl)) (hv := (hs6.entAt 3 rfl viewA_at)) (hm := h10) B _) fun w11 hs13 => ?_
 refine zE 5 (hK8 _ _ ?_)
 refine W.seq fun K14 hK14 => ?_
 refine W.seq_join (fun s_ w_ => ∃ (p15 : Bool), (∃ us, s_ = slots 89 [(2, (zp b4)), (4, (zp b7)), (6, (zi r9.1)), (7, (zi r9.2)), (26, (.bool p15))] us) ∧ St B w l0 w_ [viewA (ptr vb) img l, zb mb 180 [(zp vb), (zi gw), (zi gi), (zi gb), (zi n_)], zb b4 107 [(zp vb), (zi gw), (zi gi), (zi gb), (zp mb)], zb b7 59 [(.string ByteArray.empty), (zi 0)]] ∧ tentry_J1 img l gw gi gb k_ r9 p15 = some r) ?_ ?_
 ·
  rintro _ w16 ⟨p15, ⟨us, rfl⟩, hs17, hm⟩
  unfold tentry_J1 at hm
  refine W.cond p15 (by kernel_rfl) (fun h18 => ?_) (fun h18 => ?_)
  ·
   have h18p : p15 = true := h18
   replace hm := ite_yes hm h18p
   refine W.sr fun K19 hK19 => ?_
   refine zR 2 ?_
   have hs22 := St.f3 hs17
   refine zT 0 [(.string ByteArray.empty), (zi 0)] [(.string ByteArray.empty), (zi 0)] hs22 fun w20 hs23 => ?_
   refine zE 1 (hK19 _ _ ?_)
   refine W.ret (ret_seq ?_)
   obtain rfl := some_inj hm
   have hs24 := St.f1 hs23
   have hs25 := St.f2 hs24
   have hs26 := St.tk2 hs25
   refine ret_of (.tuple #[(.agg #[(.string ByteArray.empty), (zi 0)]), (zi r9.2)]) (resS_of (by kernel_rfl) (resD_two rfl (.agg (ad := ⟨b7, 0, none⟩) (cs := [(.string ByteArray.empty), (zi 0)]) (by kernel_rfl) (by kernel_rfl) (cells_sub (hs23.heapAt 0 rfl) rfl)) (.tmp (by kernel_rfl)))) ⟨_, ⟨rfl, rfl⟩, hs26⟩
  have h18p : ¬ (p15 = true) := ne_true_of_eq_false h18
  replace hm := ite_no hm h18p
  refine W.skip ?_
  refine hK14 _ _ ?_
  refine W.sr fun K27 hK27 => ?_
  refine zR 1 ?_
  refine zG ⟨b4, 1, none⟩ [(zi gw), (zi gi), (zi gb)] (cells_sub (hs17.heapAt 2 rfl) rfl) ?_
  refine zR 1 ?_
  refine zC00 hs17 (blockat_spec (gw := gw) (gi := gi) (gb := gb) (n_ := r9.1) B _) fun w28 hs30 => ?_
  refine zR 1 ?_
  obtain ⟨r31, h32, hm⟩ := bind_some hm
  replace h32 := some_inj h32
  refine ops_set 8 (v := .int .i64 r31) (Eq.trans (by kernel_rfl) (congrArg (Value.int .i64) h32)) ?_
  refine zD (hK27 _ _ ?_)
  refine W.seq fun K33 hK33 => ?_
  have hs34 := hs30.drew
  refine W.regionD [(0, 0), (1, 1), (0, 0), (6, 6), (0, 0), (16, 16), (0, 0), (64, 64), (168, 160), (271, 8), (1023, 256)] (fun w_ => St B w l0 w_ [viewA (ptr vb) img l, zb mb 180 [(zp vb), (zi gw), (zi gi), (zi gb), (zi n_)], zb b4 107 [(zp vb), (zi gw), (zi gi), (zi gb), (zp mb)], zb b7 59 [(.string ByteArray.empty), (zi 0)]]) (by kernel_rfl) hs34 ?_
  refine zA (zp b4) 0 hs34 ?_
  refine zB 1 ⟨b4, 0, none⟩ (zp vb) (fun _ hS_ => (hS_.cellAt 2 rfl rfl)) hs34 ?_
  refine zA (zi r31) 2 hs34 ?_
  refine zA (zp b4) 4 hs34 ?_
  refine zB 5 ⟨b4, 0, none⟩ (zp vb) (fun _ hS_ => (hS_.cellAt 2 rfl rfl)) hs34 ?_
  refine zA (zi r31) 6 hs34 ?_
  obtain ⟨h35, hm⟩ := need_some hm
  refine any_val (v := .int .i64 (IntKind.i64.wrap (r31 + 1))) (v' := .int .i64 (r31 + 1)) 7 (by kernel_rfl) (fun _ => by kernel_rfl) (congrArg (Value.int .i64) (wrap_i64 h35.1 h35.2)) hs34 ?_
  refine any_step 3 (by kernel_rfl) (by kernel_rfl) ?_
  refine zC00 hs34 (get_spec (at_ := r31) (hv := (hs34.entAt 0 rfl viewA_at)) B _) fun w36 hs38 => ?_
  refine ops_done (by kernel_rfl) ⟨hs38, ?_⟩
  refine any_step 8 (by kernel_rfl) (by kernel_rfl) ?_
  refine zC00 hs38 (get_spec (at_ := (r31 + 1)) (hv := (hs38.entAt 0 rfl viewA_at)) B _) fun w39 hs41 => ?_
  refine ops_done (by kernel_rfl) ⟨hs41, ?_⟩
  refine zA (zu (vget img l r31)) 9 hs41 ?_
  refine zA (zu (vget img l (r31 + 1))) 10 hs41 ?_
  refine any_done (by kernel_rfl) ?_
  refine hK33 _ _ ?_
  refine W.seq fun K42 hK42 => ?_
  refine W.seq_join (fun s_ w_ => ∃ (p43 : Bool), (∃ us, s_ = slots 89 [(2, (zp b4)), (4, (zp b7)), (8, (zi r31)), (9, (zu (vget img l r31))), (10, (zu (vget img l (r31 + 1)))), (55, (.bool p43))] us) ∧ St B w l0 w_ [viewA (ptr vb) img l, zb mb 180 [(zp vb), (zi gw), (zi gi), (zi gb), (zi n_)], zb b4 107 [(zp vb), (zi gw), (zi gi), (zi gb), (zp mb)], zb b7 59 [(.string ByteArray.empty), (zi 0)]] ∧ tentry_J2 img l k_ r31 p43 = some r) ?_ ?_
  ·
   rintro _ w44 ⟨p43, ⟨us, rfl⟩, hs45, hm⟩
   unfold tentry_J2 at hm
   refine W.cond p43 (by kernel_rfl) (fun h46 => ?_) (fun h46 => ?_)
   ·
    have h46p : p43 = true := h46
    replace hm := ite_yes hm h46p
    refine W.sr fun K47 hK47 => ?_
    refine zR 1 ?_
    have hs50 := St.f3 hs45
    refine zT 0 [(.string ByteArray.empty), (zi 0)] [(.string ByteArray.empty), (zi 0)] hs50 fun w48 hs51 => ?_
    refine zE 1 (hK47 _ _ ?_)
    refine W.ret (ret_seq ?_)
    obtain rfl := some_inj hm
    have hs52 := St.f1 hs51
    have hs53 := St.f2 hs52
    have hs54 := St.tk2 hs53
    refine ret_of (.tuple #[(.agg #[(.string ByteArray.empty), (zi 0)]), (zi 4)]) (resS_of (by kernel_rfl) (resD_two rfl (.agg (ad := ⟨b7, 0, none⟩) (cs := [(.string ByteArray.empty), (zi 0)]) (by kernel_rfl) (by kernel_rfl) (cells_sub (hs51.heapAt 0 rfl) rfl)) (.tmp (by kernel_rfl)))) ⟨_, ⟨rfl, rfl⟩, hs54⟩
   have h46p : ¬ (p43 = true) := ne_true_of_eq_false h46
   replace hm := ite_no hm h46p
   refine W.skip ?_
   refine hK42 _ _ ?_
   refine W.sr fun K55 hK55 => ?_
   refine zE 1 (hK55 _ _ ?_)
   refine W.seq_join (fun s_ w_ => ∃ (q58 : List Int) (m56 : Option Addr) (m57 : Nat), (∃ us, s_ = slots 89 [(4, (zp b7)), (9, (zu (vget img l r31))), (10, (zu (vget img l (r31 + 1)))), (11, (.slice m56 q58.length m57))] us) ∧ St B w l0 w_ [zb b7 59 [(.string ByteArray.empty), (zi 0)], kU64.row m56 m57 q58, viewA (ptr vb) img l, zb mb 180 [(zp vb), (zi gw), (zi gi), (zi gb), (zi n_)], zb b4 107 [(zp vb), (zi gw), (zi gi), (zi gb), (zp mb)]] ∧ tentry_J3 img l r31 q58 = some r) ?_ ?_
   ·
    rintro _ w59 ⟨q58, m56, m57, ⟨us, rfl⟩, hs60, hm⟩
    unfold tentry_J3 at hm
    refine W.sr fun K61 hK61 => ?_
    refine zR 2 ?_
    obtain ⟨h62, hm⟩ := need_some hm
    refine zI _ (wrap_i64 h62.1 h62.2) ?_
    obtain ⟨r63, h64, hm⟩ := bind_some hm
    refine zC00 hs60 (unpack_walk (ws := q58) (n_ := (vget img l (r31 + 1))) (wa := m56) (wc := m57) (hw := (St.kcells kU64 hs60 1 rfl)) (hm := h64) B _) fun w65 hs67 => ?_
    refine zE 5 (hK61 _ _ ?_)
    refine W.seq fun K68 hK68 => ?_
    refine W.seq_join (fun s_ w_ => ∃ (p69 : Bool), (∃ us, s_ = slots 89 [(4, (zp b7)), (9, (zu (vget img l r31))), (13, (.string r63.1)), (83, (.bool p69))] us) ∧ St B w l0 w_ [zb b7 59 [(.string ByteArray.empty), (zi 0)], kU64.row m56 m57 q58, viewA (ptr vb) img l, zb mb 180 [(zp vb), (zi gw), (zi gi), (zi gb), (zi n_)], zb b4 107 [(zp vb), (zi gw), (zi gi), (zi gb), (zp mb)]] ∧ tentry_J4 img l r31 r63 p69 = some r) ?_ ?_
    ·
     rintro _ w70 ⟨p69, ⟨us, rfl⟩, hs71, hm⟩
     unfold tentry_J4 at hm
     refine W.cond p69 (by kernel_rfl) (fun h72 => ?_) (fun h72 => ?_)
     ·
      have h72p : p69 = true := h72
      replace hm := ite_yes hm h72p
      refine W.sr fun K73 hK73 => ?_
      refine zR 1 ?_
      refine zT 0 [(.string ByteArray.empty), (zi 0)] [(.string ByteArray.empty), (zi 0)] hs71 fun w74 hs76 => ?_
      refine zE 1 (hK73 _ _ ?_)
      refine W.ret (ret_seq ?_)
      obtain rfl := some_inj hm
      have hs77 := St.f2 hs76
      have hs78 := St.f3 hs77
      have hs79 := St.tk2 hs78
      refine ret_of (.tuple #[(.agg #[(.string ByteArray.empty), (zi 0)]), (zi 4)]) (resS_of (by kernel_rfl) (resD_two rfl (.agg (ad := ⟨b7, 0, none⟩) (cs := [(.string ByteArray.empty), (zi 0)]) (by kernel_rfl) (by kernel_rfl) (cells_sub (hs76.heapAt 0 rfl) rfl)) (.tmp (by kernel_rfl)))) ⟨_, ⟨rfl, rfl⟩, hs79⟩
     have h72p : ¬ (p69 = true) := ne_true_of_eq_false h72
     replace hm := ite_no hm h72p
     refine W.skip ?_
     refine hK68 _ _ ?_
     refine W.sr fun K80 hK80 => ?_
     refine zR 2 ?_
     obtain ⟨h81, hm⟩ := need_some hm
     refine zI _ (wrap_i64 h81.1 h81.2) ?_
     refine zR 1 ?_
     refine zT 0 [(.string r63.1), (zi (vget img l r31))] [(.string r63.1), (zi (vget img l r31))] hs71 fun w82 hs84 => ?_
     refine zE 1 (hK80 _ _ ?_)
     refine W.ret ?_
     obtain rfl := some_inj hm
     have hs85 := St.f2 hs84
     have hs86 := St.f3 hs85
     have hs87 := St.tk2 hs86
     refine ret_of (.tuple #[(.agg #[(.string r63.1), (zi (vget img l r31))]), (zi 0)]) (resS_of (by kernel_rfl) (resD_two rfl (.agg (ad := ⟨b7, 0, none⟩) (cs := [(.string r63.1), (zi (vget img l r31))]) (by kernel_rfl) (by kernel_rfl) (cells_sub (hs84.heapAt 0 rfl) rfl)) (.tmp (by kernel_rfl)))) ⟨_, ⟨rfl, rfl⟩, hs87⟩
    refine W.region ?_
    refine zR 3 ?_
    rcases Bool.eq_false_or_eq_true (!decide (r63.2 = 0)) with h88 | h88
    rotate_left
    ·
     have h88p : r63.2 = 0 := of_decide_eq_true (bnot_false h88)
     replace hm := ite_yes hm h88p
     refine zS 79 h88 ?_
     refine zS 78 h88 ?_
     refine zR 1 ?_
     obtain ⟨r89, h90, hm⟩ := bind_some hm
     refine zC00 hs67 (emay_walk (tx_ := r63.1) (hm := h90) B _) fun w91 hs93 => ?_
     refine zE 2 ?_
     exact ⟨(!r89), slots_intro _ (by kernel_rfl), hs93, hm⟩
    have h88p : ¬ (r63.2 = 0) := of_decide_eq_false (bnot_true h88)
    replace hm := ite_no hm h88p
    refine zS 79 h88 ?_
    refine zS 78 h88 ?_
    refine zE 4 ?_
    exact ⟨true, slots_intro _ (by kernel_rfl), hs67, hm⟩
   refine W.sr fun K94 hK94 => ?_
   refine zE 1 (hK94 _ _ ?_)
   refine W.block ?_
   have hs103 := St.knil kU64 hs45
   have hs104 := St.f4 hs103
   have hs105 := St.f4 hs104
   have hs106 := St.f4 hs105
   have hs107 := St.f4 hs106
   refine W.loop_iter (G := (List Int) × Int × (Option Addr) × Nat) (σ := (List Int) × Int) (fun | (q97, p98, m95, m96) => (q97, p98)) (fun | (q97, p98, m95, m96), s_, w_ => (∃ us, s_ = slots 89 [(2, (zp b4)), (4, (zp b7)), (8, (zi r31)), (9, (zu (vget img l r31))), (10, (zu (vget img l (r31 + 1)))), (11, (.slice m95 q97.length m96)), (12, (zi p98))] us) ∧ St B w l0 w_ [viewA (ptr vb) img l, zb mb 180 [(zp vb), (zi gw), (zi gi), (zi gb), (zi n_)], zb b4 107 [(zp vb), (zi gw), (zi gi), (zi gb), (zp mb)], zb b7 59 [(.string ByteArray.empty), (zi 0)], kU64.row m95 m96 q97]) ([], 2, none, 0) ⟨slots_intro _ (by kernel_rfl), hs107⟩ hm ?_
   rintro k99 ih100 ⟨q97, p98, m95, m96⟩ _ w101 ⟨⟨us, rfl⟩, hs102⟩ hm
   replace hm : tentry_B0 img l r31 k99 q97 p98 = some r := hm
   unfold tentry_B0 at hm
   refine W.seq fun K108 hK108 => ?_
   refine W.sr fun K109 hK109 => ?_
   refine zE 2 (hK109 _ _ ?_)
   refine W.cond (decide (p98 < 8)) (by kernel_rfl) (fun h110 => ?_) (fun h110 => ?_)
   ·
    obtain ⟨h110p, hm⟩ := iY hm h110
    refine W.skip ?_
    refine hK108 _ _ ?_
    refine W.seq fun K111 hK111 => ?_
    refine W.block ?_
    refine W.region ?_
    refine zR 2 ?_
    refine zL ⟨b4, 0, none⟩ (zp vb) (hs102.cellAt 2 rfl rfl) ?_
    refine zR 2 ?_
    obtain ⟨h112, hm⟩ := need_some hm
    refine zI _ (wrap_i64 h112.1 h112.2) ?_
    refine zC00 hs102 (get_spec (at_ := (r31 + p98)) (hv := (hs102.entAt 0 rfl viewA_at)) B _) fun w113 hs115 => ?_
    refine ops_new (fun b => .slice (some ⟨b, 0, none⟩) 1 1) (.cells [(zu (vget img l (r31 + p98)))].toArray 34 (0, 0)) hs115 (by kernel_rfl) (fun b118 w116 hs117 => ?_)
    have hs119 := St.f5 hs117
    obtain ⟨h124, hm⟩ := need_some hm
    refine ops_appendK kU64 (bytes := 8) (a' := (some ⟨b118, 0, none⟩)) (c' := 1) (l := q97) (m := [(vget img l (r31 + p98))]) hs119 (by kernel_rfl) (by simp) (cells_blk (hs119.heapAt 1 rfl)) (by unfold maxLen; (try simp only [List.length_cons, List.length_nil]); omega) (by (try simp only [List.length_cons, List.length_nil]); omega) (fun a120 c121 w122 hs123 => ?_)
    refine zE 1 ?_
    refine normal_block ?_
    refine hK111 _ _ ?_
    refine W.region ?_
    refine zR 1 ?_
    obtain ⟨h125, hm⟩ := need_some hm
    refine zI _ (wrap_i64 h125.1 h125.2) ?_
    refine zE 1 ?_
    have hs126 := St.f5 hs123
    have hs127 := St.f5 hs126
    have hs128 := St.f5 hs127
    have hs129 := St.f5 hs128
    have hs130 := St.tk5 hs129
    refine loopAt_next ?_
    exact ih100 ((q97 ++ [(vget img l (r31 + p98))]), (p98 + 1), a120, c121) _ _ ⟨slots_intro _ (by kernel_rfl), hs130⟩ hm
   obtain ⟨h110p, hm⟩ := iN hm h110
   refine W.exit (exit_seq (exit_seq (exit_here ?_)))
   have hs131 := St.f2 hs102
   have hs132 := St.f2 hs131
   have hs133 := St.f2 hs132
   have hs134 := St.f4 hs133
   have hs135 := St.f4 hs134
   exact ⟨q97, m95, m96, slots_intro _ (by kernel_rfl), hs135, hm⟩
  refine W.region ?_
  refine zR 3 ?_
  rcases Bool.eq_false_or_eq_true (decide ((vget img l r31) < 1)) with h136 | h136
  ·
   obtain ⟨h136p, hm⟩ := iY hm h136
   refine zS 44 h136 ?_
   refine zS 43 h136 ?_
   refine zE 11 ?_
   exact ⟨true, slots_intro _ (by kernel_rfl), hs41, hm⟩
  obtain ⟨h136p, hm⟩ := iN hm h136
  refine zS 44 h136 ?_
  refine zS 43 h136 ?_
  refine zR 3 ?_
  refine zL ⟨b4, 2, none⟩ (zi gi) (hs41.cellAt 2 rfl rfl) ?_
  obtain ⟨h137, hm⟩ := need_some hm
  refine zI _ (wrap_u64 h137.1 (Int.lt_of_le_of_lt h137.2 (by decide))) ?_
  refine zR 3 ?_
  rcases Bool.eq_false_or_eq_true (decide ((vget img l r31) ≥ gi)) with h138 | h138
  ·
   obtain ⟨h138p, hm⟩ := iY hm h138
   refine zS 52 h138 ?_
   refine zS 50 h138 ?_
   refine zS 51 h138 ?_
   refine zE 3 ?_
   exact ⟨true, slots_intro _ (by kernel_rfl), hs41, hm⟩
  obtain ⟨h138p, hm⟩ := iN hm h138
  refine zS 52 h138 ?_
  refine zS 50 h138 ?_
  refine zS 51 h138 ?_
  refine zE 3 ?_
  exact ⟨(decide ((vget img l (r31 + 1)) > 40)), slots_intro _ (by kernel_rfl), hs41, hm⟩
 refine W.region ?_
 refine zR 3 ?_
 rcases Bool.eq_false_or_eq_true (!decide (r9.2 = 0)) with h139 | h139
 rotate_left
 ·
  have h139p : r9.2 = 0 := of_decide_eq_true (bnot_false h139)
  replace hm := ite_yes hm h139p
  refine zS 23 h139 ?_
  refine zS 22 h139 ?_
  refine zE 3 ?_
  have hs140 := St.f1 hs13
  have hs141 := St.f2 hs140
  have hs142 := St.f3 hs141
  exact ⟨(decide (r9.1 = 0)), slots_intro _ (by kernel_rfl), hs142, hm⟩
 have h139p : ¬ (r9.2 = 0) := of_decide_eq_false (bnot_true h139)
 replace hm := ite_no hm h139p
 refine zS 23 h139 ?_
 refine zS 22 h139 ?_
 refine zE 3 ?_
 have hs143 := St.f1 hs13
 have hs144 := St.f2 hs143
 have hs145 := St.f3 hs144
 exact ⟨true, slots_intro _ (by kernel_rfl), hs145, hm⟩
end Go.Proofs.YtmmclabkkigiaaaGreat

set_option maxRecDepth 20000
set_option maxHeartbeats 2000000
namespace Go.Proofs.YtmmclabkkigiaaaGreat
open Go Go.RowKit
theorem around_spec {f_ : Int} (B : Nat) (w : World) : Spec Tryz.prog 73 #[(zi f_)] B w [] (fun v H' => ∃ b1, v = .func (.func 95) #[] #[ptr b1] ∧ H' = [zb b1 3 [(zi f_)]]) := by
 refine spec_Q Tryz.func73 rfl fun hs => ?_
 refine W.sr fun K1 hK1 => ?_
 refine zN [(zi f_)] 3 hs fun b4 w2 hs3 => ?_
 refine zE 1 (hK1 _ _ ?_)
 refine W.sr fun K5 hK5 => ?_
 refine zE 2 (hK5 _ _ ?_)
 refine W.ret ?_
 refine ret_of (.func (.func 95) #[] #[(zp b4)]) (by kernel_rfl) ⟨_, ⟨b4, rfl, rfl⟩, hs3⟩
theorem around1_spec {c1 yl : Nat} {f_ : Int} {Y : Nat → Asn} {Z : Asn} (B : Nat) (w : World) (hf : 0 ≤ f_ ∧ f_ ≤ 12) (hy : ∀ k : Nat, k < 12 → ∀ w', YSpec Tryz.prog yl #[(zi ((f_ + (k : Int)) % 12))] B w' [Y k] (fun v H' => (v = .bool true ∧ H' = [Y (k + 1)]) ∨ (v = .bool false ∧ H' = [Z]))) : Spec Tryz.prog 95 #[(.func (.yield yl) #[] #[]), (zp c1)] B w [zb c1 3 [(zi f_)], Y 0] (fun v H' => v = .tuple #[] ∧ (H' = [zb c1 3 [(zi f_)], Y 12] ∨ H' = [zb c1 3 [(zi f_)], Z])) := by
 refine spec_W Tryz.func95 rfl fun l0 hs => ?_
 refine W.sr fun K1 hK1 => ?_
 refine zE 1 (hK1 _ _ ?_)
 refine W.block ?_
 refine W.loop (G := Nat) (fun | k, s_, w_ => (∃ us, s_ = slots 15 [(0, (.func (.yield yl) #[] #[])), (1, (zp c1)), (4, (zi ((k : Nat) : Int)))] us) ∧ St B w l0 w_ [zb c1 3 [(zi f_)], Y k] ∧ (k ≤ 12)) (fun k => 12 - k) 0 ⟨slots_intro _ (by kernel_rfl), hs, by omega⟩ ?_
 rintro k _ w2 ⟨⟨us, rfl⟩, hs3, hk0⟩
 refine W.sr fun K4 hK4 => ?_
 refine zE 1 (hK4 _ _ ?_)
 refine W.seq fun K5 hK5 => ?_
 refine W.cond (decide (((k : Nat) : Int) < 12)) (by kernel_rfl) (fun h6 => ?_) (fun h6 => ?_)
 ·
  have h6p := of_decide_eq_true h6
  refine W.skip ?_
  refine hK5 _ _ ?_
  refine W.seq fun K7 hK7 => ?_
  refine W.block ?_
  refine W.sr fun K8 hK8 => ?_
  refine zE 2 (hK8 _ _ ?_)
  refine W.sr fun K9 hK9 => ?_
  refine zR 1 ?_
  refine zL ⟨c1, 0, none⟩ (zi f_) (hs3.cellAt 0 rfl rfl) ?_
  refine zR 1 ?_
  have h10 : -9223372036854775808 ≤ (f_ + ((k : Nat) : Int)) ∧ (f_ + ((k : Nat) : Int)) ≤ 9223372036854775807 := by omega
  refine zI _ (wrap_i64 h10.1 h10.2) ?_
  have h11 : 0 ≤ (f_ + ((k : Nat) : Int)) := by omega
  refine ops_R (v := .int .i64 ((f_ + ((k : Nat) : Int)) % 12)) (runs_rem (k := .i64) (a := (f_ + ((k : Nat) : Int))) (b := 12) (by kernel_rfl) (by decide) (Int.tmod_eq_emod_of_nonneg h11)) ?_
  have hs12 := St.f1 hs3
  refine ops_yield (pre := [Y k]) (l := yl) hs12 (by kernel_rfl) (by kernel_rfl) (hy k (by omega) _) ?_
  rintro _ _ w13 (⟨rfl, rfl⟩ | ⟨rfl, rfl⟩) hs14
  ·
   have hs15 : St B w l0 w13 [Y (k + 1), zb c1 3 [(zi f_)]] := hs14
   refine zE 1 (hK9 _ _ ?_)
   refine W.cond_false false (by kernel_rfl) rfl ?_
   refine W.skip ?_
   refine normal_block ?_
   refine hK7 _ _ ?_
   refine W.region ?_
   have h16 : -9223372036854775808 ≤ (((k : Nat) : Int) + 1) ∧ (((k : Nat) : Int) + 1) ≤ 9223372036854775807 := by omega
   refine zI _ (wrap_i64 h16.1 h16.2) ?_
   refine zE 1 ?_
   have hs17 := St.f1 hs15
   exact ⟨k + 1, ⟨slots_intro _ (by kernel_rfl), hs17, by omega⟩, by omega⟩
  have hs18 : St B w l0 w13 [Z, zb c1 3 [(zi f_)]] := hs14
  refine zE 1 (hK9 _ _ ?_)
  refine W.cond_true true (by kernel_rfl) rfl ?_
  refine W.ret (ret_block (ret_seq (ret_seq (ret_block ?_))))
  have hs19 := St.f1 hs18
  refine ret_of (.tuple #[]) (by kernel_rfl) ⟨_, ⟨rfl, .inr rfl⟩, hs19⟩
 have h6p := of_decide_eq_false h6
 refine W.exit (exit_seq (exit_seq (exit_here ?_)))
 have hn_ : k = 12 := by omega
 subst hn_
 refine ret_ofN (.tuple #[]) (by kernel_rfl) ⟨_, ⟨rfl, .inl rfl⟩, hs3⟩
end Go.Proofs.YtmmclabkkigiaaaGreat

set_option maxRecDepth 20000
set_option maxHeartbeats 8000000
namespace Go.Proofs.YtmmclabkkigiaaaGreat
open Go Go.RowKit
def tfind_D40  : Option (ByteArray × Int × Int × Int) :=
 some (ByteArray.empty, 0, 0, 6)
def tfind_X40 (p41 : Int) (p42 : Int) (p43 : ByteArray) (p44 : Int) : Option (ByteArray × Int × Int × Int) :=
 some (p43, p44, p42, p41)
def tfind_R40 (img : List Int) (l : List (Int × Int)) (gw : Int) (gi : Int) (gb : Int) (n_ : Int) (tx_ : ByteArray) (r27 : Int) (k38 : Nat) (c39 : Unit → Option (ByteArray × Int × Int × Int)) : Option (ByteArray × Int × Int × Int) :=
 (some (((r27 : Int) + (k38 : Int)) % 12)).bind fun r104 =>
(tentry_M img l gw gi gb n_ r104).bind fun r109 =>
if r109.2.2 = 0 then (if r109.1 = tx_ ∧ r109.2.1 = r109.2.1 then (tfind_X40 0 r104 r109.1 r109.2.1) else (c39 ())) else (tfind_X40 r109.2.2 0 ByteArray.empty 0)
def tfind_M (img : List Int) (l : List (Int × Int)) (gw : Int) (gi : Int) (gb : Int) (n_ : Int) (tx_ : ByteArray) : Option (ByteArray × Int × Int × Int) :=
 (emay_M tx_).bind fun r19 =>
if r19 = true then ((ebegin_M tx_).bind fun r27 =>
need ((0 : Int) ≤ r27 ∧ (r27 : Int) ≤ 12) <|
rounds (fun k_ c_ s_ => tfind_R40 img l gw gi gb n_ tx_ r27 k_ c_) (fun s_ => tfind_D40) 12 0 ()) else (some (ByteArray.empty, 0, 0, 13))
theorem tfind_walk {img : List Int} {l : List (Int × Int)} {gw : Int} {gi : Int} {gb : Int} {n_ : Int} {tx_ : ByteArray} {mb vb : Nat} {r : ByteArray × Int × Int × Int} (B : Nat) (w : World) (hm : tfind_M img l gw gi gb n_ tx_ = some r) : Spec Tryz.prog 39 #[(.agg #[(zp vb), (zi gw), (zi gi), (zi gb), (zp mb)]), (.string tx_)] B w [zb mb 180 [(zp vb), (zi gw), (zi gi), (zi gb), (zi n_)], viewA (ptr vb) img l] (fun v H' => v = (.tuple #[(.agg #[(.string r.1), (zi r.2.1)]), (zi r.2.2.1), (zi r.2.2.2)]) ∧ H' = [zb mb 180 [(zp vb), (zi gw), (zi gi), (zi gb), (zi n_)], viewA (ptr vb) img l]) := by
 refine spec_W Tryz.func39 rfl fun l0 hs => ?_
 unfold tfind_M at hm
 refine W.sr fun K1 hK1 => ?_
 refine zN [(zp vb), (zi gw), (zi gi), (zi gb), (zp mb)] 107 hs fun b4 w2 hs3 => ?_
 refine zN [(.string tx_)] 9 hs3 fun b7 w5 hs6 => ?_
 refine zN [(.string ByteArray.empty), (zi 0)] 59 hs6 fun b10 w8 hs9 => ?_
 refine zN [(zi 0)] 3 hs9 fun b13 w11 hs12 => ?_
 refine zN [(zi 0)] 42 hs12 fun b16 w14 hs15 => ?_
 refine zD (hK1 _ _ ?_)
 refine W.seq fun K17 hK17 => ?_
 refine W.sr fun K18 hK18 => ?_
 refine zL ⟨b7, 0, none⟩ (.string tx_) (hs15.cellAt 3 rfl rfl) ?_
 obtain ⟨r19, h20, hm⟩ := bind_some hm
 refine zC00 hs15 (emay_walk (tx_ := tx_) (hm := h20) B _) fun w21 hs23 => ?_
 refine zE 1 (hK18 _ _ ?_)
 refine W.cond (!r19) (by kernel_rfl) (fun h24 => ?_) (fun h24 => ?_)
 rotate_left
 ·
  have h24p : r19 = true := (bnot_false h24)
  replace hm := ite_yes hm h24p
  refine W.skip ?_
  refine hK17 _ _ ?_
  refine W.seq fun K25 hK25 => ?_
  refine W.sr fun K26 hK26 => ?_
  refine zL ⟨b7, 0, none⟩ (.string tx_) (hs23.cellAt 3 rfl rfl) ?_
  obtain ⟨r27, h28, hm⟩ := bind_some hm
  refine zC00 hs23 (ebegin_walk (tx_ := tx_) (hm := h28) B _) fun w29 hs31 => ?_
  refine ops_call0 hs31 (by kernel_rfl) (around_spec (f_ := r27) B _) ?_
  rintro _ _ w33 ⟨b32, rfl, rfl⟩ hs34
  have hs35 := St.ap1 hs34
  refine zD (hK26 _ _ ?_)
  refine W.block ?_
  obtain ⟨h36, hm⟩ := need_some hm
  refine W.norm (n := 37) (l := [(2, (zp b4)), (3, (zp b7)), (4, (zp b10)), (5, (zp b13)), (6, (zp b16)), (16, (.func (.func 95) #[] #[(zp b32)]))]) (by kernel_rfl) (fun us37 => ?_)
  have hs49 := St.f5 hs35
  have hs50 := St.f6 hs49
  have hs51 := St.f7 hs50
  have hs52 := St.f7 hs51
  have hs53 := St.f7 hs52
  have hs54 := St.f7 hs53
  have hs55 := St.f7 hs54
  have hs56 := St.f7 hs55
  have hF57 : rounds (fun k_ c_ s_ => tfind_R40 img l gw gi gb n_ tx_ r27 k_ c_) (fun s_ => tfind_D40) (12 - 0) 0 () = some r := by rw [Nat.sub_zero]; exact hm
  clear hm
  refine W.roundsA (G := Unit) (GZ := Int × Int × ByteArray × Int) (gf := 95) (lb := #[(zp b32)]) 12 (fun k_ _ => rounds (fun k_ c_ s_ => tfind_R40 img l gw gi gb n_ tx_ r27 k_ c_) (fun s_ => tfind_D40) (12 - k_) k_ () = some r) (fun _ => [zb b16 42 [(zi 0)], zb b13 3 [(zi 0)], zb b10 59 [(.string ByteArray.empty), (zi 0)], zb b7 9 [(.string tx_)], viewA (ptr vb) img l, zb mb 180 [(zp vb), (zi gw), (zi gi), (zi gb), (zi n_)], zb b4 107 [(zp vb), (zi gw), (zi gi), (zi gb), (zp mb)]]) .ret (fun (p41, p42, p43, p44) => tfind_X40 p41 p42 p43 p44 = some r) (fun (p41, p42, p43, p44) => [zb b16 42 [(zi p41)], zb b13 3 [(zi p42)], zb b10 59 [(.string p43), (zi p44)], zb b7 9 [(.string tx_)], viewA (ptr vb) img l, zb mb 180 [(zp vb), (zi gw), (zi gi), (zi gb), (zi n_)], zb b4 107 [(zp vb), (zi gw), (zi gi), (zi gb), (zp mb)]]) [zb b32 3 [(zi r27)]] (fun k_ => #[(zi (((r27 : Int) + (k_ : Int)) % 12))]) (fun k_ l_ => slotsD 37 ((17, (zi (((r27 : Int) + (k_ : Int)) % 12))) :: [(2, (zp b4)), (3, (zp b7)), (4, (zp b10)), (5, (zp b13)), (6, (zp b16)), (16, (.func (.func 95) #[] #[(zp b32)]))]) us37 (some l_) []) () hF57 hs56 rfl (by kernel_rfl) (fun _ _ => by kernel_rfl) (fun _ => rfl) (fun a_ k_ l_ h1_ h2_ => ⟨rel_round1 (n := 37) (by decide) h1_ h2_, rfl⟩) (fun l_ => #[.func (.yield l_) #[] #[], (zp b32)]) (fun _ => rfl) (fun l_ w_ Y_ Z_ hy_ => around1_spec (f_ := r27) (yl := l_) (Y := Y_) (Z := Z_) (hf := h36) (hy := fun k_ h_ w_ => hy_ k_ h_ w_) _ w_) ?_ ?_ ?_
  rotate_left
  ·
   rintro D48 w58 _ hF60 hs59
   replace hF60 : rounds (fun k_ c_ s_ => tfind_R40 img l gw gi gb n_ tx_ r27 k_ c_) (fun s_ => tfind_D40) (12 - 12) 12 () = some r := hF60
   rw [rounds_end] at hF60
   have hm : tfind_D40 = some r := hF60
   clear hF60
   unfold tfind_D40 at hm
   have hs61 : St B w l0 w58 [blk D48 (.deferred (some [])), zb b32 3 [(zi r27)], zb b16 42 [(zi 0)], zb b13 3 [(zi 0)], zb b10 59 [(.string ByteArray.empty), (zi 0)], zb b7 9 [(.string tx_)], viewA (ptr vb) img l, zb mb 180 [(zp vb), (zi gw), (zi gi), (zi gb), (zi n_)], zb b4 107 [(zp vb), (zi gw), (zi gi), (zi gb), (zp mb)]] := hs59
   refine normal_block ?_
   refine hK25 _ _ ?_
   refine W.sr fun K62 hK62 => ?_
   refine zR 1 ?_
   have hs65 := St.f4 hs61
   refine zT 0 [(.string ByteArray.empty), (zi 0)] [(.string ByteArray.empty), (zi 0)] hs65 fun w63 hs66 => ?_
   have hs69 := St.f4 hs66
   refine zT 0 [(zi 0)] [(zi 0)] hs69 fun w67 hs70 => ?_
   have hs73 := St.f4 hs70
   refine zT 0 [(zi 6)] [(zi 6)] hs73 fun w71 hs74 => ?_
   refine zD (hK62 _ _ ?_)
   refine W.ret ?_
   obtain rfl := some_inj hm
   have hs75 := St.f8 hs74
   have hs76 := St.f8 hs75
   have hs77 := St.f8 hs76
   have hs78 := St.f8 hs77
   have hs79 := St.f8 hs78
   have hs80 := St.f7 hs79
   have hs81 := St.f7 hs80
   have hs82 := St.f7 hs81
   have hs83 := St.f8 hs82
   refine leave_mark (D := D48) (v := (.tuple #[(.agg #[(.string ByteArray.empty), (zi 0)]), (zi 0), (zi 6)])) hs83 (by kernel_rfl) (fun w84 hs85 => (resD_three rfl (.agg (ad := ⟨b10, 0, none⟩) (cs := [(.string ByteArray.empty), (zi 0)]) (by kernel_rfl) (by kernel_rfl) (cells_sub (hs85.heapAt 2 rfl) rfl)) (.cell (ad := ⟨b13, 0, none⟩) (by kernel_rfl) (by kernel_rfl) (hs85.cellAt 1 rfl rfl)) (.cell (ad := ⟨b16, 0, none⟩) (by kernel_rfl) (by kernel_rfl) (hs85.cellAt 0 rfl rfl)))) (fun w84 hs85 => ?_)
   have hs86 := St.f5 hs85
   have hs87 := St.f6 hs86
   have hs88 := St.tk2 hs87
   exact ⟨_, ⟨rfl, rfl⟩, hs88⟩
  ·
   rintro D91 w89 ⟨p41, p42, p43, p44⟩ hm hs90
   replace hm : tfind_X40 p41 p42 p43 p44 = some r := hm
   unfold tfind_X40 at hm
   have hs92 : St B w l0 w89 [blk D91 (.deferred (some [])), zb b32 3 [(zi r27)], zb b16 42 [(zi p41)], zb b13 3 [(zi p42)], zb b10 59 [(.string p43), (zi p44)], zb b7 9 [(.string tx_)], viewA (ptr vb) img l, zb mb 180 [(zp vb), (zi gw), (zi gi), (zi gb), (zi n_)], zb b4 107 [(zp vb), (zi gw), (zi gi), (zi gb), (zp mb)]] := hs90
   refine W.ret (ret_block (ret_seq ?_))
   obtain rfl := some_inj hm
   refine leave_mark (D := D91) (v := (.tuple #[(.agg #[(.string p43), (zi p44)]), (zi p42), (zi p41)])) hs92 (by kernel_rfl) (fun w93 hs94 => (resD_three rfl (.agg (ad := ⟨b10, 0, none⟩) (cs := [(.string p43), (zi p44)]) (by kernel_rfl) (by kernel_rfl) (cells_sub (hs94.heapAt 3 rfl) rfl)) (.cell (ad := ⟨b13, 0, none⟩) (by kernel_rfl) (by kernel_rfl) (hs94.cellAt 2 rfl rfl)) (.cell (ad := ⟨b16, 0, none⟩) (by kernel_rfl) (by kernel_rfl) (hs94.cellAt 1 rfl rfl)))) (fun w93 hs94 => ?_)
   have hs95 := St.f5 hs94
   have hs96 := St.f6 hs95
   have hs97 := St.tk2 hs96
   exact ⟨_, ⟨rfl, rfl⟩, hs97⟩
  rintro k38 hk98 rc46 l45 w99 _ hF103 lf100 hs101 K102 hK102
  replace hF103 : rounds (fun k_ c_ s_ => tfind_R40 img l gw gi gb n_ tx_ r27 k_ c_) (fun s_ => tfind_D40) (12 - k38) k38 () = some r := hF103
  rw [rounds_at hk98] at hF103
  obtain ⟨c39, hc39⟩ : ∃ c_, c_ = rounds (fun k_ c_ s_ => tfind_R40 img l gw gi gb n_ tx_ r27 k_ c_) (fun s_ => tfind_D40) (12 - (k38 + 1)) (k38 + 1) := ⟨_, rfl⟩
  rw [← hc39] at hF103
  have hm : tfind_R40 img l gw gi gb n_ tx_ r27 k38 c39 = some r := hF103
  clear hF103
  unfold tfind_R40 at hm
  refine W.region ?_
  refine zR 1 ?_
  obtain ⟨r104, h105, hm⟩ := bind_some hm
  replace h105 := some_inj h105
  refine ops_set 7 (v := .int .i64 r104) (Eq.trans (by kernel_rfl) (congrArg (Value.int .i64) h105)) ?_
  refine zD ?_
  refine hK102 _ _ hs101 (fun w106 hs107 => ?_)
  refine W.block ?_
  refine W.sr fun K108 hK108 => ?_
  refine zG ⟨b4, 0, none⟩ [(zp vb), (zi gw), (zi gi), (zi gb), (zp mb)] (cells_sub (hs107.heapAt 7 rfl) rfl) ?_
  refine zR 1 ?_
  obtain ⟨r109, h110, hm⟩ := bind_some hm
  have hs111 := St.f5 hs107
  have hs112 := St.f6 hs111
  refine zC22 hs112 (tentry_walk (mb := mb) (vb := vb) (k_ := r104) (img := img) (l := l) (gw := gw) (gi := gi) (gb := gb) (n_ := n_) (hm := h110) B _) fun w113 hs115 => ?_
  refine zR 3 ?_
  refine zN [(.string ByteArray.empty), (zi 0)] 59 hs115 fun b118 w116 hs117 => ?_
  refine zT 0 [(.string r109.1), (zi r109.2.1)] [(.string r109.1), (zi r109.2.1)] hs117 fun w119 hs121 => ?_
  refine zE 1 (hK108 _ _ ?_)
  refine W.seq fun K122 hK122 => ?_
  refine W.sr fun K123 hK123 => ?_
  refine zE 2 (hK123 _ _ ?_)
  refine W.cond (!decide (r109.2.2 = 0)) (by kernel_rfl) (fun h124 => ?_) (fun h124 => ?_)
  rotate_left
  ·
   have h124p : r109.2.2 = 0 := of_decide_eq_true (bnot_false h124)
   replace hm := ite_yes hm h124p
   refine W.skip ?_
   refine hK122 _ _ ?_
   refine W.sr fun K125 hK125 => ?_
   refine zG ⟨b118, 0, none⟩ [(.string r109.1), (zi r109.2.1)] (cells_sub (hs121.heapAt 0 rfl) rfl) ?_
   refine zL ⟨b7, 0, none⟩ (.string tx_) (hs121.cellAt 7 rfl rfl) ?_
   refine zR 1 ?_
   refine zL ⟨b118, 1, none⟩ (zi r109.2.1) (hs121.cellAt 0 rfl rfl) ?_
   refine zR 1 ?_
   refine ops_R (v := (.bool ((r109.1 == tx_) && ((decide (r109.2.1 = r109.2.1)) && true)))) (runs_eq (b := ((r109.1 == tx_) && ((decide (r109.2.1 = r109.2.1)) && true))) (by kernel_rfl)) ?_
   refine zD (hK125 _ _ ?_)
   refine W.cond ((r109.1 == tx_) && ((decide (r109.2.1 = r109.2.1)) && true)) (by kernel_rfl) (fun h126 => ?_) (fun h126 => ?_)
   ·
    have h126p : r109.1 = tx_ ∧ r109.2.1 = r109.2.1 := by simpa using h126
    replace hm := ite_yes hm h126p
    refine W.sr fun K127 hK127 => ?_
    refine zG ⟨b118, 0, none⟩ [(.string r109.1), (zi r109.2.1)] (cells_sub (hs121.heapAt 0 rfl) rfl) ?_
    refine zR 1 ?_
    have hs130 := St.f6 hs121
    refine zT 0 [(.string r109.1), (zi r109.2.1)] [(.string r109.1), (zi r109.2.1)] hs130 fun w128 hs131 => ?_
    have hs134 := St.f6 hs131
    refine zT 0 [(zi r104)] [(zi r104)] hs134 fun w132 hs135 => ?_
    have hs138 := St.f6 hs135
    refine zT 0 [(zi 0)] [(zi 0)] hs138 fun w136 hs139 => ?_
    refine zD (hK127 _ _ ?_)
    refine W.ret (ret_block ?_)
    have hs140 := St.f8 hs139
    have hs141 := St.f5 hs140
    have hs142 := St.f6 hs141
    have hs143 := St.f8 hs142
    have hs144 := St.f6 hs143
    have hs145 := St.f6 hs144
    have hs146 := St.f6 hs145
    have hs147 := St.f8 hs146
    have hs148 := St.tk8 hs147
    exact ⟨rfl, (0, r104, r109.1, r109.2.1), hm, hs148⟩
   have h126p : ¬ (r109.1 = tx_ ∧ r109.2.1 = r109.2.1) := by simpa using h126
   replace hm := ite_no hm h126p
   refine W.skip ?_
   refine normal_block ?_
   have hs149 := St.f8 hs121
   have hs150 := St.f2 hs149
   have hs151 := St.f3 hs150
   have hs152 := St.f8 hs151
   have hs153 := St.f8 hs152
   have hs154 := St.f8 hs153
   have hs155 := St.f8 hs154
   have hs156 := St.f8 hs155
   have hs157 := St.tk8 hs156
   rw [hc39] at hm
   exact ⟨(), hm, hs157⟩
  have h124p : ¬ (r109.2.2 = 0) := of_decide_eq_false (bnot_true h124)
  replace hm := ite_no hm h124p
  refine W.sr fun K158 hK158 => ?_
  refine zR 2 ?_
  have hs161 := St.f6 hs121
  refine zT 0 [(.string ByteArray.empty), (zi 0)] [(.string ByteArray.empty), (zi 0)] hs161 fun w159 hs162 => ?_
  have hs165 := St.f6 hs162
  refine zT 0 [(zi 0)] [(zi 0)] hs165 fun w163 hs166 => ?_
  have hs169 := St.f6 hs166
  refine zT 0 [(zi r109.2.2)] [(zi r109.2.2)] hs169 fun w167 hs170 => ?_
  refine zD (hK158 _ _ ?_)
  refine W.ret (ret_seq (ret_block ?_))
  have hs171 := St.f8 hs170
  have hs172 := St.f5 hs171
  have hs173 := St.f6 hs172
  have hs174 := St.f8 hs173
  have hs175 := St.f6 hs174
  have hs176 := St.f6 hs175
  have hs177 := St.f6 hs176
  have hs178 := St.f8 hs177
  have hs179 := St.tk8 hs178
  exact ⟨rfl, (r109.2.2, 0, ByteArray.empty, 0), hm, hs179⟩
 have h24p : ¬ (r19 = true) := ne_true_of_eq_false (bnot_true h24)
 replace hm := ite_no hm h24p
 refine W.sr fun K180 hK180 => ?_
 refine zR 1 ?_
 have hs183 := St.f2 hs23
 refine zT 0 [(.string ByteArray.empty), (zi 0)] [(.string ByteArray.empty), (zi 0)] hs183 fun w181 hs184 => ?_
 have hs187 := St.f2 hs184
 refine zT 0 [(zi 0)] [(zi 0)] hs187 fun w185 hs188 => ?_
 have hs191 := St.f2 hs188
 refine zT 0 [(zi 13)] [(zi 13)] hs191 fun w189 hs192 => ?_
 refine zD (hK180 _ _ ?_)
 refine W.ret (ret_seq ?_)
 obtain rfl := some_inj hm
 have hs193 := St.f6 hs192
 have hs194 := St.f6 hs193
 have hs195 := St.tk2 hs194
 refine ret_of (.tuple #[(.agg #[(.string ByteArray.empty), (zi 0)]), (zi 0), (zi 13)]) (resS_of (by kernel_rfl) (resD_three rfl (.agg (ad := ⟨b10, 0, none⟩) (cs := [(.string ByteArray.empty), (zi 0)]) (by kernel_rfl) (by kernel_rfl) (cells_sub (hs192.heapAt 2 rfl) rfl)) (.cell (ad := ⟨b13, 0, none⟩) (by kernel_rfl) (by kernel_rfl) (hs192.cellAt 1 rfl rfl)) (.cell (ad := ⟨b16, 0, none⟩) (by kernel_rfl) (by kernel_rfl) (hs192.cellAt 0 rfl rfl)))) ⟨_, ⟨rfl, rfl⟩, hs195⟩
end Go.Proofs.YtmmclabkkigiaaaGreat

set_option maxRecDepth 20000
set_option maxHeartbeats 1000000
namespace Go.Proofs.YtmmclabkkigiaaaGreat
open Go Go.RowKit
theorem bof_ok {vb : Nat} {img : List Int} {l : List (Int × Int)} {gw gi gb n_ : Int} (B : Nat) (w : World) (hv : ViewAt (ptr vb) img l w) (hP : (igetM img l gw gi gb n_).2 = 0) : Spec Tryz.prog 72 #[(zp vb), (.agg #[(zi gw), (zi gi), (zi gb)]), (zi n_)] B w [] (fun v H' => ∃ mb, v = .tuple #[ptr mb, .int .i64 0] ∧ H' = [zb mb 180 [(zp vb), (zi gw), (zi gi), (zi gb), (zi n_)]]) := by
 refine spec_Q Tryz.func72 rfl fun hs => ?_
 refine W.sr fun K1 hK1 => ?_
 refine zN [(zi gw), (zi gi), (zi gb)] 24 hs fun b4 w2 hs3 => ?_
 refine zE 2 (hK1 _ _ ?_)
 refine W.sr fun K5 hK5 => ?_
 refine zR 1 ?_
 refine zG ⟨b4, 0, none⟩ [(zi gw), (zi gi), (zi gb)] (cells_sub (hs3.heapAt 0 rfl) rfl) ?_
 refine zR 1 ?_
 refine zC00 hs3 (ig_spec (gw := gw) (gi := gi) (gb := gb) (n_ := n_) (hv := (viewAt_old hs3 hv)) B _) fun w6 hs8 => ?_
 refine zR 3 ?_
 refine zN [(zu 0), (zu 0), (zu 0), (zu 0), (zu 0), (zu 0), (zu 0), (zu 0), (zu 0), (zu 0)] 65 hs8 fun b11 w9 hs10 => ?_
 refine zT 0 [(zu ((igetM img l gw gi gb n_).1.k)), (zu ((igetM img l gw gi gb n_).1.l)), (zu ((igetM img l gw gi gb n_).1.o)), (zu ((igetM img l gw gi gb n_).1.s)), (zu ((igetM img l gw gi gb n_).1.a)), (zu ((igetM img l gw gi gb n_).1.b)), (zu ((igetM img l gw gi gb n_).1.c)), (zu ((igetM img l gw gi gb n_).1.d)), (zu ((igetM img l gw gi gb n_).1.e)), (zu ((igetM img l gw gi gb n_).1.m))] [(zu ((igetM img l gw gi gb n_).1.k)), (zu ((igetM img l gw gi gb n_).1.l)), (zu ((igetM img l gw gi gb n_).1.o)), (zu ((igetM img l gw gi gb n_).1.s)), (zu ((igetM img l gw gi gb n_).1.a)), (zu ((igetM img l gw gi gb n_).1.b)), (zu ((igetM img l gw gi gb n_).1.c)), (zu ((igetM img l gw gi gb n_).1.d)), (zu ((igetM img l gw gi gb n_).1.e)), (zu ((igetM img l gw gi gb n_).1.m))] hs10 fun w12 hs14 => ?_
 refine zE 1 (hK5 _ _ ?_)
 refine W.seq fun K15 hK15 => ?_
 refine W.sr fun K16 hK16 => ?_
 refine zE 2 (hK16 _ _ ?_)
 refine W.cond (!decide ((igetM img l gw gi gb n_).2 = 0)) (by kernel_rfl) (fun h17 => ?_) (fun h17 => ?_)
 ·
  have h17p : ¬ ((igetM img l gw gi gb n_).2 = 0) := of_decide_eq_false (bnot_true h17)
  refine W.sr fun K18 hK18 => ?_
  refine zE 3 (hK18 _ _ ?_)
  refine W.ret (ret_seq ?_)
  exact absurd hP (by assumption)
 have h17p : (igetM img l gw gi gb n_).2 = 0 := of_decide_eq_true (bnot_false h17)
 refine W.skip ?_
 refine hK15 _ _ ?_
 refine W.sr fun K19 hK19 => ?_
 refine zR 1 ?_
 refine zG ⟨b4, 0, none⟩ [(zi gw), (zi gi), (zi gb)] (cells_sub (hs14.heapAt 1 rfl) rfl) ?_
 refine zR 2 ?_
 refine zN [(zp vb), (zi gw), (zi gi), (zi gb), (zi n_)] 180 hs14 fun b22 w20 hs21 => ?_
 refine zE 2 (hK19 _ _ ?_)
 refine W.ret ?_
 have hs23 := St.tk1 hs21
 refine ret_of (.tuple #[(zp b22), (zi 0)]) (by kernel_rfl) ⟨_, ⟨b22, rfl, rfl⟩, hs23⟩
theorem bof_err {vb : Nat} {img : List Int} {l : List (Int × Int)} {gw gi gb n_ : Int} (B : Nat) (w : World) (hv : ViewAt (ptr vb) img l w) (hN : ¬ ((igetM img l gw gi gb n_).2 = 0)) : Spec Tryz.prog 72 #[(zp vb), (.agg #[(zi gw), (zi gi), (zi gb)]), (zi n_)] B w [] (fun v H' => v = .tuple #[.pointer none, .int .i64 ((igetM img l gw gi gb n_).2)] ∧ H' = []) := by
 refine spec_Q Tryz.func72 rfl fun hs => ?_
 refine W.sr fun K1 hK1 => ?_
 refine zN [(zi gw), (zi gi), (zi gb)] 24 hs fun b4 w2 hs3 => ?_
 refine zE 2 (hK1 _ _ ?_)
 refine W.sr fun K5 hK5 => ?_
 refine zR 1 ?_
 refine zG ⟨b4, 0, none⟩ [(zi gw), (zi gi), (zi gb)] (cells_sub (hs3.heapAt 0 rfl) rfl) ?_
 refine zR 1 ?_
 refine zC00 hs3 (ig_spec (gw := gw) (gi := gi) (gb := gb) (n_ := n_) (hv := (viewAt_old hs3 hv)) B _) fun w6 hs8 => ?_
 refine zR 3 ?_
 refine zN [(zu 0), (zu 0), (zu 0), (zu 0), (zu 0), (zu 0), (zu 0), (zu 0), (zu 0), (zu 0)] 65 hs8 fun b11 w9 hs10 => ?_
 refine zT 0 [(zu ((igetM img l gw gi gb n_).1.k)), (zu ((igetM img l gw gi gb n_).1.l)), (zu ((igetM img l gw gi gb n_).1.o)), (zu ((igetM img l gw gi gb n_).1.s)), (zu ((igetM img l gw gi gb n_).1.a)), (zu ((igetM img l gw gi gb n_).1.b)), (zu ((igetM img l gw gi gb n_).1.c)), (zu ((igetM img l gw gi gb n_).1.d)), (zu ((igetM img l gw gi gb n_).1.e)), (zu ((igetM img l gw gi gb n_).1.m))] [(zu ((igetM img l gw gi gb n_).1.k)), (zu ((igetM img l gw gi gb n_).1.l)), (zu ((igetM img l gw gi gb n_).1.o)), (zu ((igetM img l gw gi gb n_).1.s)), (zu ((igetM img l gw gi gb n_).1.a)), (zu ((igetM img l gw gi gb n_).1.b)), (zu ((igetM img l gw gi gb n_).1.c)), (zu ((igetM img l gw gi gb n_).1.d)), (zu ((igetM img l gw gi gb n_).1.e)), (zu ((igetM img l gw gi gb n_).1.m))] hs10 fun w12 hs14 => ?_
 refine zE 1 (hK5 _ _ ?_)
 refine W.seq fun K15 hK15 => ?_
 refine W.sr fun K16 hK16 => ?_
 refine zE 2 (hK16 _ _ ?_)
 refine W.cond (!decide ((igetM img l gw gi gb n_).2 = 0)) (by kernel_rfl) (fun h17 => ?_) (fun h17 => ?_)
 ·
  have h17p : ¬ ((igetM img l gw gi gb n_).2 = 0) := of_decide_eq_false (bnot_true h17)
  refine W.sr fun K18 hK18 => ?_
  refine zE 3 (hK18 _ _ ?_)
  refine W.ret (ret_seq ?_)
  have hs19 := St.tk0 hs14
  refine ret_of (.tuple #[(.pointer none), (zi ((igetM img l gw gi gb n_).2))]) (by kernel_rfl) ⟨_, ⟨rfl, rfl⟩, hs19⟩
 have h17p : (igetM img l gw gi gb n_).2 = 0 := of_decide_eq_true (bnot_false h17)
 refine W.skip ?_
 refine hK15 _ _ ?_
 refine W.sr fun K20 hK20 => ?_
 refine zR 1 ?_
 refine zG ⟨b4, 0, none⟩ [(zi gw), (zi gi), (zi gb)] (cells_sub (hs14.heapAt 1 rfl) rfl) ?_
 refine zR 2 ?_
 refine zN [(zp vb), (zi gw), (zi gi), (zi gb), (zi n_)] 180 hs14 fun b23 w21 hs22 => ?_
 refine zE 2 (hK20 _ _ ?_)
 refine W.ret ?_
 exact absurd (by assumption) hN
end Go.Proofs.YtmmclabkkigiaaaGreat

set_option maxRecDepth 20000
set_option maxHeartbeats 2000000
namespace Go.Proofs.YtmmclabkkigiaaaGreat
open Go Go.RowKit
theorem eopen_ok {vb : Nat} {img : List Int} {l : List (Int × Int)} {gw gi gb n_ : Int} (B : Nat) (w : World) (hv : ViewAt (ptr vb) img l w) (hP : (igetM img l gw gi gb n_).2 = 0) (hK : (igetM img l gw gi gb n_).1.k = 2) : Spec Tryz.prog 38 #[(zp vb), (.agg #[(zi gw), (zi gi), (zi gb)]), (zi n_)] B w [] (fun v H' => ∃ mb, v = (.tuple #[(.agg #[(zp vb), (zi gw), (zi gi), (zi gb), (zp mb)]), (zi 0)]) ∧ H' = [zb mb 180 [(zp vb), (zi gw), (zi gi), (zi gb), (zi n_)]]) := by
 refine spec_Q Tryz.func38 rfl fun hs => ?_
 refine W.sr fun K1 hK1 => ?_
 refine zN [(zi gw), (zi gi), (zi gb)] 24 hs fun b4 w2 hs3 => ?_
 refine zN [(.pointer none), (zi 0), (zi 0), (zi 0), (.pointer none)] 107 hs3 fun b7 w5 hs6 => ?_
 refine zE 1 (hK1 _ _ ?_)
 refine W.sr fun K8 hK8 => ?_
 refine zR 1 ?_
 refine zG ⟨b4, 0, none⟩ [(zi gw), (zi gi), (zi gb)] (cells_sub (hs6.heapAt 1 rfl) rfl) ?_
 refine zR 1 ?_
 refine zC00 hs6 (ig_spec (gw := gw) (gi := gi) (gb := gb) (n_ := n_) (hv := (viewAt_old hs6 hv)) B _) fun w9 hs11 => ?_
 refine zR 3 ?_
 refine zN [(zu 0), (zu 0), (zu 0), (zu 0), (zu 0), (zu 0), (zu 0), (zu 0), (zu 0), (zu 0)] 65 hs11 fun b14 w12 hs13 => ?_
 refine zT 0 [(zu ((igetM img l gw gi gb n_).1.k)), (zu ((igetM img l gw gi gb n_).1.l)), (zu ((igetM img l gw gi gb n_).1.o)), (zu ((igetM img l gw gi gb n_).1.s)), (zu ((igetM img l gw gi gb n_).1.a)), (zu ((igetM img l gw gi gb n_).1.b)), (zu ((igetM img l gw gi gb n_).1.c)), (zu ((igetM img l gw gi gb n_).1.d)), (zu ((igetM img l gw gi gb n_).1.e)), (zu ((igetM img l gw gi gb n_).1.m))] [(zu ((igetM img l gw gi gb n_).1.k)), (zu ((igetM img l gw gi gb n_).1.l)), (zu ((igetM img l gw gi gb n_).1.o)), (zu ((igetM img l gw gi gb n_).1.s)), (zu ((igetM img l gw gi gb n_).1.a)), (zu ((igetM img l gw gi gb n_).1.b)), (zu ((igetM img l gw gi gb n_).1.c)), (zu ((igetM img l gw gi gb n_).1.d)), (zu ((igetM img l gw gi gb n_).1.e)), (zu ((igetM img l gw gi gb n_).1.m))] hs13 fun w15 hs17 => ?_
 refine zE 1 (hK8 _ _ ?_)
 refine W.seq fun K18 hK18 => ?_
 refine W.sr fun K19 hK19 => ?_
 refine zR 3 ?_
 rcases Bool.eq_false_or_eq_true (decide ((igetM img l gw gi gb n_).2 = 0)) with h20 | h20
 ·
  have h20p := of_decide_eq_true h20
  refine zS 20 h20 ?_
  refine zS 19 h20 ?_
  refine zR 1 ?_
  refine zL ⟨b14, 0, none⟩ (zu ((igetM img l gw gi gb n_).1.k)) (hs17.cellAt 0 rfl rfl) ?_
  refine zE 2 (hK19 _ _ ?_)
  refine W.cond (!decide ((igetM img l gw gi gb n_).1.k = 2)) (by kernel_rfl) (fun h21 => ?_) (fun h21 => ?_)
  ·
   have h21p : ¬ ((igetM img l gw gi gb n_).1.k = 2) := of_decide_eq_false (bnot_true h21)
   refine W.region ?_
   refine zE 1 (hK18 _ _ ?_)
   refine W.seq fun K22 hK22 => ?_
   refine W.sr fun K23 hK23 => ?_
   refine zE 2 (hK23 _ _ ?_)
   refine W.cond_true true (by kernel_rfl) rfl ?_
   refine W.sr fun K24 hK24 => ?_
   refine zR 2 ?_
   have hs27 := St.f1 hs17
   refine zT 0 [(.pointer none), (zi 0), (zi 0), (zi 0), (.pointer none)] [(.pointer none), (zi 0), (zi 0), (zi 0), (.pointer none)] hs27 fun w25 hs28 => ?_
   refine zE 1 (hK24 _ _ ?_)
   refine W.ret (ret_seq ?_)
   exfalso; omega
  have h21p : (igetM img l gw gi gb n_).1.k = 2 := of_decide_eq_true (bnot_false h21)
  refine W.skip ?_
  refine hK18 _ _ ?_
  refine W.seq fun K29 hK29 => ?_
  refine W.sr fun K30 hK30 => ?_
  refine zE 2 (hK30 _ _ ?_)
  refine W.cond (!decide ((igetM img l gw gi gb n_).2 = 0)) (by kernel_rfl) (fun h31 => ?_) (fun h31 => ?_)
  ·
   have h31p : ¬ ((igetM img l gw gi gb n_).2 = 0) := of_decide_eq_false (bnot_true h31)
   refine W.sr fun K32 hK32 => ?_
   refine zR 2 ?_
   have hs35 := St.f1 hs17
   refine zT 0 [(.pointer none), (zi 0), (zi 0), (zi 0), (.pointer none)] [(.pointer none), (zi 0), (zi 0), (zi 0), (.pointer none)] hs35 fun w33 hs36 => ?_
   refine zE 1 (hK32 _ _ ?_)
   refine W.ret (ret_seq ?_)
   exfalso; omega
  have h31p : (igetM img l gw gi gb n_).2 = 0 := of_decide_eq_true (bnot_false h31)
  refine W.skip ?_
  refine hK29 _ _ ?_
  refine W.sr fun K37 hK37 => ?_
  refine zR 1 ?_
  refine zG ⟨b4, 0, none⟩ [(zi gw), (zi gi), (zi gb)] (cells_sub (hs17.heapAt 2 rfl) rfl) ?_
  refine zR 1 ?_
  rcases Bool.eq_false_or_eq_true (decide ((igetM img l gw gi gb n_).2 = 0)) with h38 | h38
  ·
   have h38p := of_decide_eq_true h38
   refine ops_call0 hs17 (by kernel_rfl) (bof_ok (gw := gw) (gi := gi) (gb := gb) (n_ := n_) (hv := (viewAt_old hs17 hv)) (hP := h38p) B _) ?_
   rintro _ _ w40 ⟨b39, rfl, rfl⟩ hs41
   have hs42 := St.ap1 hs41
   refine zE 5 (hK37 _ _ ?_)
   refine W.sr fun K43 hK43 => ?_
   refine zR 1 ?_
   refine zG ⟨b4, 0, none⟩ [(zi gw), (zi gi), (zi gb)] (cells_sub (hs42.heapAt 3 rfl) rfl) ?_
   refine zR 3 ?_
   have hs46 := St.f2 hs42
   refine zT 0 [(zp vb), (zi gw), (zi gi), (zi gb), (zp b39)] [(zp vb), (zi gw), (zi gi), (zi gb), (zp b39)] hs46 fun w44 hs47 => ?_
   refine zE 1 (hK43 _ _ ?_)
   refine W.ret ?_
   have hs48 := St.f1 hs47
   have hs49 := St.tk1 hs48
   refine ret_of (.tuple #[(.agg #[(zp vb), (zi gw), (zi gi), (zi gb), (zp b39)]), (zi 0)]) (resS_of (by kernel_rfl) (resD_two rfl (.agg (ad := ⟨b7, 0, none⟩) (cs := [(zp vb), (zi gw), (zi gi), (zi gb), (zp b39)]) (by kernel_rfl) (by kernel_rfl) (cells_sub (hs47.heapAt 0 rfl) rfl)) (.tmp (by kernel_rfl)))) ⟨_, ⟨b39, rfl, rfl⟩, hs49⟩
  have h38p := of_decide_eq_false h38
  refine zC00 hs17 (bof_err (gw := gw) (gi := gi) (gb := gb) (n_ := n_) (hv := (viewAt_old hs17 hv)) (hN := h38p) B _) fun w50 hs52 => ?_
  refine zE 5 (hK37 _ _ ?_)
  refine W.sr fun K53 hK53 => ?_
  refine zR 1 ?_
  refine zG ⟨b4, 0, none⟩ [(zi gw), (zi gi), (zi gb)] (cells_sub (hs52.heapAt 2 rfl) rfl) ?_
  refine zR 3 ?_
  have hs56 := St.f1 hs52
  refine zT 0 [(zp vb), (zi gw), (zi gi), (zi gb), (.pointer none)] [(zp vb), (zi gw), (zi gi), (zi gb), (.pointer none)] hs56 fun w54 hs57 => ?_
  refine zE 1 (hK53 _ _ ?_)
  refine W.ret ?_
  exfalso; omega
 have h20p := of_decide_eq_false h20
 refine zS 20 h20 ?_
 refine zS 19 h20 ?_
 refine zE 4 (hK19 _ _ ?_)
 refine W.cond_false false (by kernel_rfl) rfl ?_
 refine W.skip ?_
 refine hK18 _ _ ?_
 refine W.seq fun K58 hK58 => ?_
 refine W.sr fun K59 hK59 => ?_
 refine zE 2 (hK59 _ _ ?_)
 refine W.cond (!decide ((igetM img l gw gi gb n_).2 = 0)) (by kernel_rfl) (fun h60 => ?_) (fun h60 => ?_)
 ·
  have h60p : ¬ ((igetM img l gw gi gb n_).2 = 0) := of_decide_eq_false (bnot_true h60)
  refine W.sr fun K61 hK61 => ?_
  refine zR 2 ?_
  have hs64 := St.f1 hs17
  refine zT 0 [(.pointer none), (zi 0), (zi 0), (zi 0), (.pointer none)] [(.pointer none), (zi 0), (zi 0), (zi 0), (.pointer none)] hs64 fun w62 hs65 => ?_
  refine zE 1 (hK61 _ _ ?_)
  refine W.ret (ret_seq ?_)
  exfalso; omega
 have h60p : (igetM img l gw gi gb n_).2 = 0 := of_decide_eq_true (bnot_false h60)
 refine W.skip ?_
 refine hK58 _ _ ?_
 refine W.sr fun K66 hK66 => ?_
 refine zR 1 ?_
 refine zG ⟨b4, 0, none⟩ [(zi gw), (zi gi), (zi gb)] (cells_sub (hs17.heapAt 2 rfl) rfl) ?_
 refine zR 1 ?_
 rcases Bool.eq_false_or_eq_true (decide ((igetM img l gw gi gb n_).2 = 0)) with h67 | h67
 ·
  have h67p := of_decide_eq_true h67
  refine ops_call0 hs17 (by kernel_rfl) (bof_ok (gw := gw) (gi := gi) (gb := gb) (n_ := n_) (hv := (viewAt_old hs17 hv)) (hP := h67p) B _) ?_
  rintro _ _ w69 ⟨b68, rfl, rfl⟩ hs70
  have hs71 := St.ap1 hs70
  refine zE 5 (hK66 _ _ ?_)
  refine W.sr fun K72 hK72 => ?_
  refine zR 1 ?_
  refine zG ⟨b4, 0, none⟩ [(zi gw), (zi gi), (zi gb)] (cells_sub (hs71.heapAt 3 rfl) rfl) ?_
  refine zR 3 ?_
  have hs75 := St.f2 hs71
  refine zT 0 [(zp vb), (zi gw), (zi gi), (zi gb), (zp b68)] [(zp vb), (zi gw), (zi gi), (zi gb), (zp b68)] hs75 fun w73 hs76 => ?_
  refine zE 1 (hK72 _ _ ?_)
  refine W.ret ?_
  have hs77 := St.f1 hs76
  have hs78 := St.tk1 hs77
  refine ret_of (.tuple #[(.agg #[(zp vb), (zi gw), (zi gi), (zi gb), (zp b68)]), (zi 0)]) (resS_of (by kernel_rfl) (resD_two rfl (.agg (ad := ⟨b7, 0, none⟩) (cs := [(zp vb), (zi gw), (zi gi), (zi gb), (zp b68)]) (by kernel_rfl) (by kernel_rfl) (cells_sub (hs76.heapAt 0 rfl) rfl)) (.tmp (by kernel_rfl)))) ⟨_, ⟨b68, rfl, rfl⟩, hs78⟩
 have h67p := of_decide_eq_false h67
 refine zC00 hs17 (bof_err (gw := gw) (gi := gi) (gb := gb) (n_ := n_) (hv := (viewAt_old hs17 hv)) (hN := h67p) B _) fun w79 hs81 => ?_
 refine zE 5 (hK66 _ _ ?_)
 refine W.sr fun K82 hK82 => ?_
 refine zR 1 ?_
 refine zG ⟨b4, 0, none⟩ [(zi gw), (zi gi), (zi gb)] (cells_sub (hs81.heapAt 2 rfl) rfl) ?_
 refine zR 3 ?_
 have hs85 := St.f1 hs81
 refine zT 0 [(zp vb), (zi gw), (zi gi), (zi gb), (.pointer none)] [(zp vb), (zi gw), (zi gi), (zi gb), (.pointer none)] hs85 fun w83 hs86 => ?_
 refine zE 1 (hK82 _ _ ?_)
 refine W.ret ?_
 exfalso; omega
theorem eopen_dir {vb : Nat} {img : List Int} {l : List (Int × Int)} {gw gi gb n_ : Int} (B : Nat) (w : World) (hv : ViewAt (ptr vb) img l w) (hP : (igetM img l gw gi gb n_).2 = 0) (hK : ¬ ((igetM img l gw gi gb n_).1.k = 2)) : Spec Tryz.prog 38 #[(zp vb), (.agg #[(zi gw), (zi gi), (zi gb)]), (zi n_)] B w [] (fun v H' => v = (.tuple #[(.agg #[(.pointer none), (zi 0), (zi 0), (zi 0), (.pointer none)]), (zi 10)]) ∧ H' = []) := by
 refine spec_Q Tryz.func38 rfl fun hs => ?_
 refine W.sr fun K1 hK1 => ?_
 refine zN [(zi gw), (zi gi), (zi gb)] 24 hs fun b4 w2 hs3 => ?_
 refine zN [(.pointer none), (zi 0), (zi 0), (zi 0), (.pointer none)] 107 hs3 fun b7 w5 hs6 => ?_
 refine zE 1 (hK1 _ _ ?_)
 refine W.sr fun K8 hK8 => ?_
 refine zR 1 ?_
 refine zG ⟨b4, 0, none⟩ [(zi gw), (zi gi), (zi gb)] (cells_sub (hs6.heapAt 1 rfl) rfl) ?_
 refine zR 1 ?_
 refine zC00 hs6 (ig_spec (gw := gw) (gi := gi) (gb := gb) (n_ := n_) (hv := (viewAt_old hs6 hv)) B _) fun w9 hs11 => ?_
 refine zR 3 ?_
 refine zN [(zu 0), (zu 0), (zu 0), (zu 0), (zu 0), (zu 0), (zu 0), (zu 0), (zu 0), (zu 0)] 65 hs11 fun b14 w12 hs13 => ?_
 refine zT 0 [(zu ((igetM img l gw gi gb n_).1.k)), (zu ((igetM img l gw gi gb n_).1.l)), (zu ((igetM img l gw gi gb n_).1.o)), (zu ((igetM img l gw gi gb n_).1.s)), (zu ((igetM img l gw gi gb n_).1.a)), (zu ((igetM img l gw gi gb n_).1.b)), (zu ((igetM img l gw gi gb n_).1.c)), (zu ((igetM img l gw gi gb n_).1.d)), (zu ((igetM img l gw gi gb n_).1.e)), (zu ((igetM img l gw gi gb n_).1.m))] [(zu ((igetM img l gw gi gb n_).1.k)), (zu ((igetM img l gw gi gb n_).1.l)), (zu ((igetM img l gw gi gb n_).1.o)), (zu ((igetM img l gw gi gb n_).1.s)), (zu ((igetM img l gw gi gb n_).1.a)), (zu ((igetM img l gw gi gb n_).1.b)), (zu ((igetM img l gw gi gb n_).1.c)), (zu ((igetM img l gw gi gb n_).1.d)), (zu ((igetM img l gw gi gb n_).1.e)), (zu ((igetM img l gw gi gb n_).1.m))] hs13 fun w15 hs17 => ?_
 refine zE 1 (hK8 _ _ ?_)
 refine W.seq fun K18 hK18 => ?_
 refine W.sr fun K19 hK19 => ?_
 refine zR 3 ?_
 rcases Bool.eq_false_or_eq_true (decide ((igetM img l gw gi gb n_).2 = 0)) with h20 | h20
 ·
  have h20p := of_decide_eq_true h20
  refine zS 20 h20 ?_
  refine zS 19 h20 ?_
  refine zR 1 ?_
  refine zL ⟨b14, 0, none⟩ (zu ((igetM img l gw gi gb n_).1.k)) (hs17.cellAt 0 rfl rfl) ?_
  refine zE 2 (hK19 _ _ ?_)
  refine W.cond (!decide ((igetM img l gw gi gb n_).1.k = 2)) (by kernel_rfl) (fun h21 => ?_) (fun h21 => ?_)
  ·
   have h21p : ¬ ((igetM img l gw gi gb n_).1.k = 2) := of_decide_eq_false (bnot_true h21)
   refine W.region ?_
   refine zE 1 (hK18 _ _ ?_)
   refine W.seq fun K22 hK22 => ?_
   refine W.sr fun K23 hK23 => ?_
   refine zE 2 (hK23 _ _ ?_)
   refine W.cond_true true (by kernel_rfl) rfl ?_
   refine W.sr fun K24 hK24 => ?_
   refine zR 2 ?_
   have hs27 := St.f1 hs17
   refine zT 0 [(.pointer none), (zi 0), (zi 0), (zi 0), (.pointer none)] [(.pointer none), (zi 0), (zi 0), (zi 0), (.pointer none)] hs27 fun w25 hs28 => ?_
   refine zE 1 (hK24 _ _ ?_)
   refine W.ret (ret_seq ?_)
   have hs29 := St.tk0 hs28
   refine ret_of (.tuple #[(.agg #[(.pointer none), (zi 0), (zi 0), (zi 0), (.pointer none)]), (zi 10)]) (resS_of (by kernel_rfl) (resD_two rfl (.agg (ad := ⟨b7, 0, none⟩) (cs := [(.pointer none), (zi 0), (zi 0), (zi 0), (.pointer none)]) (by kernel_rfl) (by kernel_rfl) (cells_sub (hs28.heapAt 0 rfl) rfl)) (.tmp (by kernel_rfl)))) ⟨_, ⟨rfl, rfl⟩, hs29⟩
  have h21p : (igetM img l gw gi gb n_).1.k = 2 := of_decide_eq_true (bnot_false h21)
  refine W.skip ?_
  refine hK18 _ _ ?_
  refine W.seq fun K30 hK30 => ?_
  refine W.sr fun K31 hK31 => ?_
  refine zE 2 (hK31 _ _ ?_)
  refine W.cond (!decide ((igetM img l gw gi gb n_).2 = 0)) (by kernel_rfl) (fun h32 => ?_) (fun h32 => ?_)
  ·
   have h32p : ¬ ((igetM img l gw gi gb n_).2 = 0) := of_decide_eq_false (bnot_true h32)
   refine W.sr fun K33 hK33 => ?_
   refine zR 2 ?_
   have hs36 := St.f1 hs17
   refine zT 0 [(.pointer none), (zi 0), (zi 0), (zi 0), (.pointer none)] [(.pointer none), (zi 0), (zi 0), (zi 0), (.pointer none)] hs36 fun w34 hs37 => ?_
   refine zE 1 (hK33 _ _ ?_)
   refine W.ret (ret_seq ?_)
   exfalso; omega
  have h32p : (igetM img l gw gi gb n_).2 = 0 := of_decide_eq_true (bnot_false h32)
  refine W.skip ?_
  refine hK30 _ _ ?_
  refine W.sr fun K38 hK38 => ?_
  refine zR 1 ?_
  refine zG ⟨b4, 0, none⟩ [(zi gw), (zi gi), (zi gb)] (cells_sub (hs17.heapAt 2 rfl) rfl) ?_
  refine zR 1 ?_
  rcases Bool.eq_false_or_eq_true (decide ((igetM img l gw gi gb n_).2 = 0)) with h39 | h39
  ·
   have h39p := of_decide_eq_true h39
   refine ops_call0 hs17 (by kernel_rfl) (bof_ok (gw := gw) (gi := gi) (gb := gb) (n_ := n_) (hv := (viewAt_old hs17 hv)) (hP := h39p) B _) ?_
   rintro _ _ w41 ⟨b40, rfl, rfl⟩ hs42
   have hs43 := St.ap1 hs42
   refine zE 5 (hK38 _ _ ?_)
   refine W.sr fun K44 hK44 => ?_
   refine zR 1 ?_
   refine zG ⟨b4, 0, none⟩ [(zi gw), (zi gi), (zi gb)] (cells_sub (hs43.heapAt 3 rfl) rfl) ?_
   refine zR 3 ?_
   have hs47 := St.f2 hs43
   refine zT 0 [(zp vb), (zi gw), (zi gi), (zi gb), (zp b40)] [(zp vb), (zi gw), (zi gi), (zi gb), (zp b40)] hs47 fun w45 hs48 => ?_
   refine zE 1 (hK44 _ _ ?_)
   refine W.ret ?_
   exfalso; omega
  have h39p := of_decide_eq_false h39
  refine zC00 hs17 (bof_err (gw := gw) (gi := gi) (gb := gb) (n_ := n_) (hv := (viewAt_old hs17 hv)) (hN := h39p) B _) fun w49 hs51 => ?_
  refine zE 5 (hK38 _ _ ?_)
  refine W.sr fun K52 hK52 => ?_
  refine zR 1 ?_
  refine zG ⟨b4, 0, none⟩ [(zi gw), (zi gi), (zi gb)] (cells_sub (hs51.heapAt 2 rfl) rfl) ?_
  refine zR 3 ?_
  have hs55 := St.f1 hs51
  refine zT 0 [(zp vb), (zi gw), (zi gi), (zi gb), (.pointer none)] [(zp vb), (zi gw), (zi gi), (zi gb), (.pointer none)] hs55 fun w53 hs56 => ?_
  refine zE 1 (hK52 _ _ ?_)
  refine W.ret ?_
  exfalso; omega
 have h20p := of_decide_eq_false h20
 refine zS 20 h20 ?_
 refine zS 19 h20 ?_
 refine zE 4 (hK19 _ _ ?_)
 refine W.cond_false false (by kernel_rfl) rfl ?_
 refine W.skip ?_
 refine hK18 _ _ ?_
 refine W.seq fun K57 hK57 => ?_
 refine W.sr fun K58 hK58 => ?_
 refine zE 2 (hK58 _ _ ?_)
 refine W.cond (!decide ((igetM img l gw gi gb n_).2 = 0)) (by kernel_rfl) (fun h59 => ?_) (fun h59 => ?_)
 ·
  have h59p : ¬ ((igetM img l gw gi gb n_).2 = 0) := of_decide_eq_false (bnot_true h59)
  refine W.sr fun K60 hK60 => ?_
  refine zR 2 ?_
  have hs63 := St.f1 hs17
  refine zT 0 [(.pointer none), (zi 0), (zi 0), (zi 0), (.pointer none)] [(.pointer none), (zi 0), (zi 0), (zi 0), (.pointer none)] hs63 fun w61 hs64 => ?_
  refine zE 1 (hK60 _ _ ?_)
  refine W.ret (ret_seq ?_)
  exfalso; omega
 have h59p : (igetM img l gw gi gb n_).2 = 0 := of_decide_eq_true (bnot_false h59)
 refine W.skip ?_
 refine hK57 _ _ ?_
 refine W.sr fun K65 hK65 => ?_
 refine zR 1 ?_
 refine zG ⟨b4, 0, none⟩ [(zi gw), (zi gi), (zi gb)] (cells_sub (hs17.heapAt 2 rfl) rfl) ?_
 refine zR 1 ?_
 rcases Bool.eq_false_or_eq_true (decide ((igetM img l gw gi gb n_).2 = 0)) with h66 | h66
 ·
  have h66p := of_decide_eq_true h66
  refine ops_call0 hs17 (by kernel_rfl) (bof_ok (gw := gw) (gi := gi) (gb := gb) (n_ := n_) (hv := (viewAt_old hs17 hv)) (hP := h66p) B _) ?_
  rintro _ _ w68 ⟨b67, rfl, rfl⟩ hs69
  have hs70 := St.ap1 hs69
  refine zE 5 (hK65 _ _ ?_)
  refine W.sr fun K71 hK71 => ?_
  refine zR 1 ?_
  refine zG ⟨b4, 0, none⟩ [(zi gw), (zi gi), (zi gb)] (cells_sub (hs70.heapAt 3 rfl) rfl) ?_
  refine zR 3 ?_
  have hs74 := St.f2 hs70
  refine zT 0 [(zp vb), (zi gw), (zi gi), (zi gb), (zp b67)] [(zp vb), (zi gw), (zi gi), (zi gb), (zp b67)] hs74 fun w72 hs75 => ?_
  refine zE 1 (hK71 _ _ ?_)
  refine W.ret ?_
  exfalso; omega
 have h66p := of_decide_eq_false h66
 refine zC00 hs17 (bof_err (gw := gw) (gi := gi) (gb := gb) (n_ := n_) (hv := (viewAt_old hs17 hv)) (hN := h66p) B _) fun w76 hs78 => ?_
 refine zE 5 (hK65 _ _ ?_)
 refine W.sr fun K79 hK79 => ?_
 refine zR 1 ?_
 refine zG ⟨b4, 0, none⟩ [(zi gw), (zi gi), (zi gb)] (cells_sub (hs78.heapAt 2 rfl) rfl) ?_
 refine zR 3 ?_
 have hs82 := St.f1 hs78
 refine zT 0 [(zp vb), (zi gw), (zi gi), (zi gb), (.pointer none)] [(zp vb), (zi gw), (zi gi), (zi gb), (.pointer none)] hs82 fun w80 hs83 => ?_
 refine zE 1 (hK79 _ _ ?_)
 refine W.ret ?_
 exfalso; omega
theorem eopen_err {vb : Nat} {img : List Int} {l : List (Int × Int)} {gw gi gb n_ : Int} (B : Nat) (w : World) (hv : ViewAt (ptr vb) img l w) (hN : ¬ ((igetM img l gw gi gb n_).2 = 0)) : Spec Tryz.prog 38 #[(zp vb), (.agg #[(zi gw), (zi gi), (zi gb)]), (zi n_)] B w [] (fun v H' => v = (.tuple #[(.agg #[(.pointer none), (zi 0), (zi 0), (zi 0), (.pointer none)]), (zi ((igetM img l gw gi gb n_).2))]) ∧ H' = []) := by
 refine spec_Q Tryz.func38 rfl fun hs => ?_
 refine W.sr fun K1 hK1 => ?_
 refine zN [(zi gw), (zi gi), (zi gb)] 24 hs fun b4 w2 hs3 => ?_
 refine zN [(.pointer none), (zi 0), (zi 0), (zi 0), (.pointer none)] 107 hs3 fun b7 w5 hs6 => ?_
 refine zE 1 (hK1 _ _ ?_)
 refine W.sr fun K8 hK8 => ?_
 refine zR 1 ?_
 refine zG ⟨b4, 0, none⟩ [(zi gw), (zi gi), (zi gb)] (cells_sub (hs6.heapAt 1 rfl) rfl) ?_
 refine zR 1 ?_
 refine zC00 hs6 (ig_spec (gw := gw) (gi := gi) (gb := gb) (n_ := n_) (hv := (viewAt_old hs6 hv)) B _) fun w9 hs11 => ?_
 refine zR 3 ?_
 refine zN [(zu 0), (zu 0), (zu 0), (zu 0), (zu 0), (zu 0), (zu 0), (zu 0), (zu 0), (zu 0)] 65 hs11 fun b14 w12 hs13 => ?_
 refine zT 0 [(zu ((igetM img l gw gi gb n_).1.k)), (zu ((igetM img l gw gi gb n_).1.l)), (zu ((igetM img l gw gi gb n_).1.o)), (zu ((igetM img l gw gi gb n_).1.s)), (zu ((igetM img l gw gi gb n_).1.a)), (zu ((igetM img l gw gi gb n_).1.b)), (zu ((igetM img l gw gi gb n_).1.c)), (zu ((igetM img l gw gi gb n_).1.d)), (zu ((igetM img l gw gi gb n_).1.e)), (zu ((igetM img l gw gi gb n_).1.m))] [(zu ((igetM img l gw gi gb n_).1.k)), (zu ((igetM img l gw gi gb n_).1.l)), (zu ((igetM img l gw gi gb n_).1.o)), (zu ((igetM img l gw gi gb n_).1.s)), (zu ((igetM img l gw gi gb n_).1.a)), (zu ((igetM img l gw gi gb n_).1.b)), (zu ((igetM img l gw gi gb n_).1.c)), (zu ((igetM img l gw gi gb n_).1.d)), (zu ((igetM img l gw gi gb n_).1.e)), (zu ((igetM img l gw gi gb n_).1.m))] hs13 fun w15 hs17 => ?_
 refine zE 1 (hK8 _ _ ?_)
 refine W.seq fun K18 hK18 => ?_
 refine W.sr fun K19 hK19 => ?_
 refine zR 3 ?_
 rcases Bool.eq_false_or_eq_true (decide ((igetM img l gw gi gb n_).2 = 0)) with h20 | h20
 ·
  have h20p := of_decide_eq_true h20
  refine zS 20 h20 ?_
  refine zS 19 h20 ?_
  refine zR 1 ?_
  refine zL ⟨b14, 0, none⟩ (zu ((igetM img l gw gi gb n_).1.k)) (hs17.cellAt 0 rfl rfl) ?_
  refine zE 2 (hK19 _ _ ?_)
  refine W.cond (!decide ((igetM img l gw gi gb n_).1.k = 2)) (by kernel_rfl) (fun h21 => ?_) (fun h21 => ?_)
  ·
   have h21p : ¬ ((igetM img l gw gi gb n_).1.k = 2) := of_decide_eq_false (bnot_true h21)
   refine W.region ?_
   refine zE 1 (hK18 _ _ ?_)
   refine W.seq fun K22 hK22 => ?_
   refine W.sr fun K23 hK23 => ?_
   refine zE 2 (hK23 _ _ ?_)
   refine W.cond_true true (by kernel_rfl) rfl ?_
   refine W.sr fun K24 hK24 => ?_
   refine zR 2 ?_
   have hs27 := St.f1 hs17
   refine zT 0 [(.pointer none), (zi 0), (zi 0), (zi 0), (.pointer none)] [(.pointer none), (zi 0), (zi 0), (zi 0), (.pointer none)] hs27 fun w25 hs28 => ?_
   refine zE 1 (hK24 _ _ ?_)
   refine W.ret (ret_seq ?_)
   exfalso; omega
  have h21p : (igetM img l gw gi gb n_).1.k = 2 := of_decide_eq_true (bnot_false h21)
  refine W.skip ?_
  refine hK18 _ _ ?_
  refine W.seq fun K29 hK29 => ?_
  refine W.sr fun K30 hK30 => ?_
  refine zE 2 (hK30 _ _ ?_)
  refine W.cond (!decide ((igetM img l gw gi gb n_).2 = 0)) (by kernel_rfl) (fun h31 => ?_) (fun h31 => ?_)
  ·
   have h31p : ¬ ((igetM img l gw gi gb n_).2 = 0) := of_decide_eq_false (bnot_true h31)
   refine W.sr fun K32 hK32 => ?_
   refine zR 2 ?_
   have hs35 := St.f1 hs17
   refine zT 0 [(.pointer none), (zi 0), (zi 0), (zi 0), (.pointer none)] [(.pointer none), (zi 0), (zi 0), (zi 0), (.pointer none)] hs35 fun w33 hs36 => ?_
   refine zE 1 (hK32 _ _ ?_)
   refine W.ret (ret_seq ?_)
   have hs37 := St.tk0 hs36
   refine ret_of (.tuple #[(.agg #[(.pointer none), (zi 0), (zi 0), (zi 0), (.pointer none)]), (zi ((igetM img l gw gi gb n_).2))]) (resS_of (by kernel_rfl) (resD_two rfl (.agg (ad := ⟨b7, 0, none⟩) (cs := [(.pointer none), (zi 0), (zi 0), (zi 0), (.pointer none)]) (by kernel_rfl) (by kernel_rfl) (cells_sub (hs36.heapAt 0 rfl) rfl)) (.tmp (by kernel_rfl)))) ⟨_, ⟨rfl, rfl⟩, hs37⟩
  have h31p : (igetM img l gw gi gb n_).2 = 0 := of_decide_eq_true (bnot_false h31)
  refine W.skip ?_
  refine hK29 _ _ ?_
  refine W.sr fun K38 hK38 => ?_
  refine zR 1 ?_
  refine zG ⟨b4, 0, none⟩ [(zi gw), (zi gi), (zi gb)] (cells_sub (hs17.heapAt 2 rfl) rfl) ?_
  refine zR 1 ?_
  rcases Bool.eq_false_or_eq_true (decide ((igetM img l gw gi gb n_).2 = 0)) with h39 | h39
  ·
   have h39p := of_decide_eq_true h39
   refine ops_call0 hs17 (by kernel_rfl) (bof_ok (gw := gw) (gi := gi) (gb := gb) (n_ := n_) (hv := (viewAt_old hs17 hv)) (hP := h39p) B _) ?_
   rintro _ _ w41 ⟨b40, rfl, rfl⟩ hs42
   have hs43 := St.ap1 hs42
   refine zE 5 (hK38 _ _ ?_)
   refine W.sr fun K44 hK44 => ?_
   refine zR 1 ?_
   refine zG ⟨b4, 0, none⟩ [(zi gw), (zi gi), (zi gb)] (cells_sub (hs43.heapAt 3 rfl) rfl) ?_
   refine zR 3 ?_
   have hs47 := St.f2 hs43
   refine zT 0 [(zp vb), (zi gw), (zi gi), (zi gb), (zp b40)] [(zp vb), (zi gw), (zi gi), (zi gb), (zp b40)] hs47 fun w45 hs48 => ?_
   refine zE 1 (hK44 _ _ ?_)
   refine W.ret ?_
   exfalso; omega
  have h39p := of_decide_eq_false h39
  refine zC00 hs17 (bof_err (gw := gw) (gi := gi) (gb := gb) (n_ := n_) (hv := (viewAt_old hs17 hv)) (hN := h39p) B _) fun w49 hs51 => ?_
  refine zE 5 (hK38 _ _ ?_)
  refine W.sr fun K52 hK52 => ?_
  refine zR 1 ?_
  refine zG ⟨b4, 0, none⟩ [(zi gw), (zi gi), (zi gb)] (cells_sub (hs51.heapAt 2 rfl) rfl) ?_
  refine zR 3 ?_
  have hs55 := St.f1 hs51
  refine zT 0 [(zp vb), (zi gw), (zi gi), (zi gb), (.pointer none)] [(zp vb), (zi gw), (zi gi), (zi gb), (.pointer none)] hs55 fun w53 hs56 => ?_
  refine zE 1 (hK52 _ _ ?_)
  refine W.ret ?_
  exfalso; omega
 have h20p := of_decide_eq_false h20
 refine zS 20 h20 ?_
 refine zS 19 h20 ?_
 refine zE 4 (hK19 _ _ ?_)
 refine W.cond_false false (by kernel_rfl) rfl ?_
 refine W.skip ?_
 refine hK18 _ _ ?_
 refine W.seq fun K57 hK57 => ?_
 refine W.sr fun K58 hK58 => ?_
 refine zE 2 (hK58 _ _ ?_)
 refine W.cond (!decide ((igetM img l gw gi gb n_).2 = 0)) (by kernel_rfl) (fun h59 => ?_) (fun h59 => ?_)
 ·
  have h59p : ¬ ((igetM img l gw gi gb n_).2 = 0) := of_decide_eq_false (bnot_true h59)
  refine W.sr fun K60 hK60 => ?_
  refine zR 2 ?_
  have hs63 := St.f1 hs17
  refine zT 0 [(.pointer none), (zi 0), (zi 0), (zi 0), (.pointer none)] [(.pointer none), (zi 0), (zi 0), (zi 0), (.pointer none)] hs63 fun w61 hs64 => ?_
  refine zE 1 (hK60 _ _ ?_)
  refine W.ret (ret_seq ?_)
  have hs65 := St.tk0 hs64
  refine ret_of (.tuple #[(.agg #[(.pointer none), (zi 0), (zi 0), (zi 0), (.pointer none)]), (zi ((igetM img l gw gi gb n_).2))]) (resS_of (by kernel_rfl) (resD_two rfl (.agg (ad := ⟨b7, 0, none⟩) (cs := [(.pointer none), (zi 0), (zi 0), (zi 0), (.pointer none)]) (by kernel_rfl) (by kernel_rfl) (cells_sub (hs64.heapAt 0 rfl) rfl)) (.tmp (by kernel_rfl)))) ⟨_, ⟨rfl, rfl⟩, hs65⟩
 have h59p : (igetM img l gw gi gb n_).2 = 0 := of_decide_eq_true (bnot_false h59)
 refine W.skip ?_
 refine hK57 _ _ ?_
 refine W.sr fun K66 hK66 => ?_
 refine zR 1 ?_
 refine zG ⟨b4, 0, none⟩ [(zi gw), (zi gi), (zi gb)] (cells_sub (hs17.heapAt 2 rfl) rfl) ?_
 refine zR 1 ?_
 rcases Bool.eq_false_or_eq_true (decide ((igetM img l gw gi gb n_).2 = 0)) with h67 | h67
 ·
  have h67p := of_decide_eq_true h67
  refine ops_call0 hs17 (by kernel_rfl) (bof_ok (gw := gw) (gi := gi) (gb := gb) (n_ := n_) (hv := (viewAt_old hs17 hv)) (hP := h67p) B _) ?_
  rintro _ _ w69 ⟨b68, rfl, rfl⟩ hs70
  have hs71 := St.ap1 hs70
  refine zE 5 (hK66 _ _ ?_)
  refine W.sr fun K72 hK72 => ?_
  refine zR 1 ?_
  refine zG ⟨b4, 0, none⟩ [(zi gw), (zi gi), (zi gb)] (cells_sub (hs71.heapAt 3 rfl) rfl) ?_
  refine zR 3 ?_
  have hs75 := St.f2 hs71
  refine zT 0 [(zp vb), (zi gw), (zi gi), (zi gb), (zp b68)] [(zp vb), (zi gw), (zi gi), (zi gb), (zp b68)] hs75 fun w73 hs76 => ?_
  refine zE 1 (hK72 _ _ ?_)
  refine W.ret ?_
  exfalso; omega
 have h67p := of_decide_eq_false h67
 refine zC00 hs17 (bof_err (gw := gw) (gi := gi) (gb := gb) (n_ := n_) (hv := (viewAt_old hs17 hv)) (hN := h67p) B _) fun w77 hs79 => ?_
 refine zE 5 (hK66 _ _ ?_)
 refine W.sr fun K80 hK80 => ?_
 refine zR 1 ?_
 refine zG ⟨b4, 0, none⟩ [(zi gw), (zi gi), (zi gb)] (cells_sub (hs79.heapAt 2 rfl) rfl) ?_
 refine zR 3 ?_
 have hs83 := St.f1 hs79
 refine zT 0 [(zp vb), (zi gw), (zi gi), (zi gb), (.pointer none)] [(zp vb), (zi gw), (zi gi), (zi gb), (.pointer none)] hs83 fun w81 hs84 => ?_
 refine zE 1 (hK80 _ _ ?_)
 refine W.ret ?_
 exfalso; omega
end Go.Proofs.YtmmclabkkigiaaaGreat

set_option maxRecDepth 20000
set_option maxHeartbeats 4000000
namespace Go.Proofs.YtmmclabkkigiaaaGreat
open Go Go.RowKit
def eFind_M (img : List Int) (l : List (Int × Int)) (gw : Int) (gi : Int) (gb : Int) (n_ : Int) (tx_ : ByteArray) : Option (ByteArray × Int × Int × Int) :=
 if (igetM img l gw gi gb n_).2 = 0 then (if (igetM img l gw gi gb n_).1.k = 2 then ((tfind_M img l gw gi gb n_ tx_).bind fun r25 =>
some (r25.1, r25.2.1, r25.2.2.1, r25.2.2.2)) else (some (ByteArray.empty, 0, 0, 10))) else ((some ((igetM img l gw gi gb n_).2)).bind fun r65 =>
if r65 = 0 then (none) else (some (ByteArray.empty, 0, 0, r65)))
theorem eFind_walk {img : List Int} {l : List (Int × Int)} {gw : Int} {gi : Int} {gb : Int} {n_ : Int} {tx_ : ByteArray} {vb : Nat} {r : ByteArray × Int × Int × Int} (B : Nat) (w : World) (hm : eFind_M img l gw gi gb n_ tx_ = some r) : Spec Tryz.prog 17 #[(zp vb), (.agg #[(zi gw), (zi gi), (zi gb)]), (zi n_), (.string tx_)] B w [viewA (ptr vb) img l] (fun v H' => v = (.tuple #[(.agg #[(.string r.1), (zi r.2.1)]), (zi r.2.2.1), (zi r.2.2.2)]) ∧ H' = [viewA (ptr vb) img l]) := by
 refine spec_W Tryz.func17 rfl fun l0 hs => ?_
 unfold eFind_M at hm
 refine W.sr fun K1 hK1 => ?_
 refine zN [(zi gw), (zi gi), (zi gb)] 24 hs fun b4 w2 hs3 => ?_
 refine zN [(.string ByteArray.empty), (zi 0)] 59 hs3 fun b7 w5 hs6 => ?_
 refine zE 2 (hK1 _ _ ?_)
 refine W.sr fun K9 hK9 => ?_
 refine zR 1 ?_
 refine zG ⟨b4, 0, none⟩ [(zi gw), (zi gi), (zi gb)] (cells_sub (hs6.heapAt 1 rfl) rfl) ?_
 refine zR 1 ?_
 rcases Bool.eq_false_or_eq_true (decide ((igetM img l gw gi gb n_).2 = 0)) with h10 | h10
 ·
  obtain ⟨h10p, hm⟩ := iY hm h10
  rcases Bool.eq_false_or_eq_true (decide ((igetM img l gw gi gb n_).1.k = 2)) with h11 | h11
  ·
   obtain ⟨h11p, hm⟩ := iY hm h11
   refine ops_call0 hs6 (by kernel_rfl) (eopen_ok (gw := gw) (gi := gi) (gb := gb) (n_ := n_) (hv := (hs6.entAt 2 rfl viewA_at)) (hP := h10p) (hK := h11p) B _) ?_
   rintro _ _ w13 ⟨b12, rfl, rfl⟩ hs14
   have hs15 := St.ap1 hs14
   refine zR 3 ?_
   refine zN [(.pointer none), (zi 0), (zi 0), (zi 0), (.pointer none)] 107 hs15 fun b18 w16 hs17 => ?_
   refine zT 0 [(zp vb), (zi gw), (zi gi), (zi gb), (zp b12)] [(zp vb), (zi gw), (zi gi), (zi gb), (zp b12)] hs17 fun w19 hs21 => ?_
   refine zE 1 (hK9 _ _ ?_)
   refine W.seq fun K22 hK22 => ?_
   refine W.sr fun K23 hK23 => ?_
   refine zE 2 (hK23 _ _ ?_)
   refine W.cond_false false (by kernel_rfl) rfl ?_
   refine W.skip ?_
   refine hK22 _ _ ?_
   refine W.sr fun K24 hK24 => ?_
   refine zG ⟨b18, 0, none⟩ [(zp vb), (zi gw), (zi gi), (zi gb), (zp b12)] (cells_sub (hs21.heapAt 0 rfl) rfl) ?_
   refine zR 1 ?_
   obtain ⟨r25, h26, hm⟩ := bind_some hm
   have hs27 := St.f4 hs21
   have hs28 := St.f2 hs27
   refine zC22 hs28 (tfind_walk (mb := b12) (vb := vb) (tx_ := tx_) (img := img) (l := l) (gw := gw) (gi := gi) (gb := gb) (n_ := n_) (hm := h26) B _) fun w29 hs31 => ?_
   refine zR 3 ?_
   have hs34 := St.f3 hs31
   refine zT 0 [(.string r25.1), (zi r25.2.1)] [(.string r25.1), (zi r25.2.1)] hs34 fun w32 hs35 => ?_
   refine zE 2 (hK24 _ _ ?_)
   refine W.ret ?_
   obtain rfl := some_inj hm
   have hs36 := St.f2 hs35
   have hs37 := St.tk1 hs36
   refine ret_of (.tuple #[(.agg #[(.string r25.1), (zi r25.2.1)]), (zi r25.2.2.1), (zi r25.2.2.2)]) (resS_of (by kernel_rfl) (resD_three rfl (.agg (ad := ⟨b7, 0, none⟩) (cs := [(.string r25.1), (zi r25.2.1)]) (by kernel_rfl) (by kernel_rfl) (cells_sub (hs35.heapAt 0 rfl) rfl)) (.tmp (by kernel_rfl)) (.tmp (by kernel_rfl)))) ⟨_, ⟨rfl, rfl⟩, hs37⟩
  obtain ⟨h11p, hm⟩ := iN hm h11
  refine zC00 hs6 (eopen_dir (gw := gw) (gi := gi) (gb := gb) (n_ := n_) (hv := (hs6.entAt 2 rfl viewA_at)) (hP := h10p) (hK := h11p) B _) fun w38 hs40 => ?_
  refine zR 3 ?_
  refine zN [(.pointer none), (zi 0), (zi 0), (zi 0), (.pointer none)] 107 hs40 fun b43 w41 hs42 => ?_
  refine zT 0 [(.pointer none), (zi 0), (zi 0), (zi 0), (.pointer none)] [(.pointer none), (zi 0), (zi 0), (zi 0), (.pointer none)] hs42 fun w44 hs46 => ?_
  refine zE 1 (hK9 _ _ ?_)
  refine W.seq fun K47 hK47 => ?_
  refine W.sr fun K48 hK48 => ?_
  refine zE 2 (hK48 _ _ ?_)
  refine W.cond_true true (by kernel_rfl) rfl ?_
  refine W.sr fun K49 hK49 => ?_
  refine zR 2 ?_
  have hs52 := St.f1 hs46
  refine zT 0 [(.string ByteArray.empty), (zi 0)] [(.string ByteArray.empty), (zi 0)] hs52 fun w50 hs53 => ?_
  refine zE 2 (hK49 _ _ ?_)
  refine W.ret (ret_seq ?_)
  obtain rfl := some_inj hm
  have hs54 := St.f3 hs53
  have hs55 := St.tk1 hs54
  refine ret_of (.tuple #[(.agg #[(.string ByteArray.empty), (zi 0)]), (zi 0), (zi 10)]) (resS_of (by kernel_rfl) (resD_three rfl (.agg (ad := ⟨b7, 0, none⟩) (cs := [(.string ByteArray.empty), (zi 0)]) (by kernel_rfl) (by kernel_rfl) (cells_sub (hs53.heapAt 0 rfl) rfl)) (.tmp (by kernel_rfl)) (.tmp (by kernel_rfl)))) ⟨_, ⟨rfl, rfl⟩, hs55⟩
 obtain ⟨h10p, hm⟩ := iN hm h10
 refine zC00 hs6 (eopen_err (gw := gw) (gi := gi) (gb := gb) (n_ := n_) (hv := (hs6.entAt 2 rfl viewA_at)) (hN := h10p) B _) fun w56 hs58 => ?_
 refine zR 3 ?_
 refine zN [(.pointer none), (zi 0), (zi 0), (zi 0), (.pointer none)] 107 hs58 fun b61 w59 hs60 => ?_
 refine zT 0 [(.pointer none), (zi 0), (zi 0), (zi 0), (.pointer none)] [(.pointer none), (zi 0), (zi 0), (zi 0), (.pointer none)] hs60 fun w62 hs64 => ?_
 refine zR 1 ?_
 obtain ⟨r65, h66, hm⟩ := bind_some hm
 replace h66 := some_inj h66
 refine ops_set 12 (v := .int .i64 r65) (Eq.trans (by kernel_rfl) (congrArg (Value.int .i64) h66)) ?_
 refine zD (hK9 _ _ ?_)
 refine W.seq fun K67 hK67 => ?_
 refine W.sr fun K68 hK68 => ?_
 refine zE 2 (hK68 _ _ ?_)
 refine W.cond (!decide (r65 = 0)) (by kernel_rfl) (fun h69 => ?_) (fun h69 => ?_)
 rotate_left
 ·
  have h69p : r65 = 0 := of_decide_eq_true (bnot_false h69)
  exact absurd h69p (fun e_ => h10p (h66.trans e_))
 have h69p : ¬ (r65 = 0) := of_decide_eq_false (bnot_true h69)
 replace hm := ite_no hm h69p
 refine W.sr fun K70 hK70 => ?_
 refine zR 2 ?_
 have hs73 := St.f1 hs64
 refine zT 0 [(.string ByteArray.empty), (zi 0)] [(.string ByteArray.empty), (zi 0)] hs73 fun w71 hs74 => ?_
 refine zE 2 (hK70 _ _ ?_)
 refine W.ret (ret_seq ?_)
 obtain rfl := some_inj hm
 have hs75 := St.f3 hs74
 have hs76 := St.tk1 hs75
 refine ret_of (.tuple #[(.agg #[(.string ByteArray.empty), (zi 0)]), (zi 0), (zi r65)]) (resS_of (by kernel_rfl) (resD_three rfl (.agg (ad := ⟨b7, 0, none⟩) (cs := [(.string ByteArray.empty), (zi 0)]) (by kernel_rfl) (by kernel_rfl) (cells_sub (hs74.heapAt 0 rfl) rfl)) (.tmp (by kernel_rfl)) (.tmp (by kernel_rfl)))) ⟨_, ⟨rfl, rfl⟩, hs76⟩
end Go.Proofs.YtmmclabkkigiaaaGreat

namespace Go.Proofs.YtmmclabkkigiaaaGreat
open Go Go.RowKit
section
variable {gw gi gb n k : Int} {img : List Int} {l : List (Int × Int)}
def nameW (img : List Int) (l : List (Int × Int)) (base : Int) : List Int := (List.range 6).map fun (q : Nat) => vget img l (base + 2 + (q : Int))
theorem nameW_len (base : Int) : (nameW img l base).length = 6 := by unfold nameW; simp
theorem nameW_go {base : Int} (hb : 0 ≤ base ∧ base ≤ 7000) {ρ : Type} {B : (List Int × Int → Option ρ) → List Int × Int → Option ρ} {fin : List Int → Option ρ} {r : ρ}
    (hB : ∀ (c : List Int × Int → Option ρ) (q : List Int) (p : Int), 2 ≤ p → q.length = (p - 2).toNat → B c (q, p) = if p < 8 then c (q ++ [vget img l (base + p)], p + 1) else fin q) (hf : fin (nameW img l base) = some r) : iter B FUEL ([], 2) = some r := by
  refine iter_run (fun s : List Int × Int => (2 ≤ s.2 ∧ s.2 ≤ 8) ∧ s.1 = (List.range (s.2 - 2).toNat).map fun (q : Nat) => vget img l (base + 2 + (q : Int))) (fun s => (8 - s.2).toNat) ?_ _ _ ⟨by simp, rfl⟩ (fuel_lt (by simp only; omega))
  rintro c ⟨q, p⟩ ⟨h1, h2⟩ ih
  simp only at h1 h2 ih
  rw [hB c q p h1.1 (by rw [h2, List.length_map, List.length_range])]
  by_cases hp : p < 8
  · rw [if_pos hp]
    refine ih _ ⟨by simp only; omega, ?_⟩ (by simp only; omega)
    simp only
    rw [h2, show (p + 1 - 2).toNat = (p - 2).toNat + 1 by omega, List.range_succ, List.map_append]
    congr 1
    simp only [List.map_cons, List.map_nil]
    congr 2
    omega
  · rw [if_neg hp]
    have : q = nameW img l base := by
      rw [h2, show (p - 2).toNat = 6 by omega]
      rfl
    rw [this]
    exact hf
theorem mayB_nil : mayB (strOfNums []) = false := by decide +kernel
theorem ent_eq (hv : VI img l) (hl : img.length ≤ 6232) (hk : 0 ≤ k ∧ k < 12) : ∃ x : ByteArray × Int × Bool × Int, rAt15_M img l gw gi gb n k = some x ∧ tentry_M img l gw gi gb n k = some (x.1, x.2.1, x.2.2.2) ∧
    ((x.2.2.1 = true ∧ x.2.2.2 = 0 ∧ mayB x.1 = true ∧ (1 ≤ x.2.1 ∧ x.2.1 < gi)) ∨ (x.2.2.1 = false ∧ x.1 = ByteArray.empty ∧ x.2.1 = 0)) ∧ ((igetM img l gw gi gb n).2 = 0 → x.2.2.2 = 0 ∨ x.2.2.2 = 4) ∧ (x.2.2.2 = 0 → ∃ a : Int × Int, bat_M img l gw gi gb n k = some a ∧ a.2 = 0) := by
  obtain ⟨a, e1, e2, hr⟩ := at_eq (gw := gw) (gi := gi) (gb := gb) (n := n) hv hl hk
  unfold rAt15_M tentry_M
  rw [e1, e2]
  simp only [Option.bind]
  have done : ∃ x : ByteArray × Int × Bool × Int, rAt15_J1 img l gw gi gb k a true = some x ∧ tentry_J1 img l gw gi gb k a true = some (x.1, x.2.1, x.2.2.2) ∧
    ((x.2.2.1 = true ∧ x.2.2.2 = 0 ∧ mayB x.1 = true ∧ (1 ≤ x.2.1 ∧ x.2.1 < gi)) ∨ (x.2.2.1 = false ∧ x.1 = ByteArray.empty ∧ x.2.1 = 0)) ∧ ((igetM img l gw gi gb n).2 = 0 → x.2.2.2 = 0 ∨ x.2.2.2 = 4) ∧ (x.2.2.2 = 0 → ∃ a' : Int × Int, some a = some a' ∧ a'.2 = 0) := by
    unfold rAt15_J1 tentry_J1
    rw [if_pos rfl, if_pos rfl]
    refine ⟨_, rfl, rfl, .inr ⟨rfl, rfl, rfl⟩, fun q => ?_, fun q => ⟨a, rfl, q⟩⟩
    rcases hr with ⟨_, b, _⟩ | ⟨_, b, _⟩
    · exact absurd q b
    · exact b
  by_cases h2 : a.2 = 0
  · simp only [if_pos h2]
    by_cases h1 : a.1 = 0
    · rw [decide_eq_true h1]
      exact done
    · rw [decide_eq_false h1]
      have h0 : (igetM img l gw gi gb n).2 = 0 ∧ (0 ≤ a.1 ∧ a.1 < gb) := by
        rcases hr with ⟨a, b, _⟩ | ⟨a, _, b, _⟩
        · omega
        · exact ⟨a, b⟩
      have g := gt_of hv hl h0.1
      have hg := may_out g.may
      unfold rAt15_J1 tentry_J1
      simp only [Bool.false_eq_true, if_false]
      rw [place9_at g.may h0.2]
      simp only [Option.bind]
      obtain ⟨base, hbase⟩ : ∃ base, base = 280 + 208 * gw + 16 * gi + 8 * a.1 := ⟨_, rfl⟩
      rw [← hbase]
      have hb : 0 ≤ base ∧ base ≤ 7000 := by omega
      have q1 : -9223372036854775808 ≤ base + 1 ∧ base + 1 ≤ 9223372036854775807 := by omega
      have q2 : 0 ≤ gi ∧ gi ≤ 18446744073709551615 := by omega
      simp only [need, if_pos q1, if_pos q2]
      have u0 := hv.1 base
      have u1 := hv.1 (base + 1)
      unfold U64 at u0 u1
      have ok0 : ∃ a' : Int × Int, some a = some a' ∧ a'.2 = 0 := ⟨a, rfl, h2⟩
      have bad : ∃ x : ByteArray × Int × Bool × Int, rAt15_J2 img l k base true = some x ∧ tentry_J2 img l k base true = some (x.1, x.2.1, x.2.2.2) ∧
        ((x.2.2.1 = true ∧ x.2.2.2 = 0 ∧ mayB x.1 = true ∧ (1 ≤ x.2.1 ∧ x.2.1 < gi)) ∨ (x.2.2.1 = false ∧ x.1 = ByteArray.empty ∧ x.2.1 = 0)) ∧ ((igetM img l gw gi gb n).2 = 0 → x.2.2.2 = 0 ∨ x.2.2.2 = 4) ∧ (x.2.2.2 = 0 → ∃ a' : Int × Int, some a = some a' ∧ a'.2 = 0) := by
        unfold rAt15_J2 tentry_J2
        rw [if_pos rfl, if_pos rfl]
        exact ⟨_, rfl, rfl, .inr ⟨rfl, rfl, rfl⟩, fun _ => .inr rfl, fun q => by cases q⟩
      by_cases hv0 : vget img l base < 1
      · simp only [if_pos hv0]
        exact bad
      by_cases hvg : vget img l base ≥ gi
      · simp only [if_neg hv0, if_pos hvg]
        exact bad
      simp only [if_neg hv0, if_neg hvg]
      have hW := nameW_len (img := img) (l := l) base
      have T : vget img l (base + 1) ≤ 40 → tentry_J2 img l k base false = some (if mayB (strOfNums (bytesF (nameW img l base) (vget img l (base + 1)).toNat)) = true then (strOfNums (bytesF (nameW img l base) (vget img l (base + 1)).toNat), vget img l base, 0) else (ByteArray.empty, 0, 4)) := by
        intro h40
        unfold tentry_J2
        rw [if_neg (by decide)]
        refine nameW_go (img := img) (l := l) (base := base) hb (fin := fun q => tentry_J3 img l base q) (fun c q p hp hq => ?_) ?_
        · show tentry_B0 img l base c q p = _
          unfold tentry_B0
          by_cases hp8 : p < 8
          · rw [if_pos hp8, if_pos hp8]
            exact need_of (by omega) (need_of (by omega) (need_of (by omega) rfl))
          · rw [if_neg hp8, if_neg hp8]
        · show tentry_J3 img l base (nameW img l base) = _
          unfold tentry_J3
          have hu := unpack_eq (ws := nameW img l base) (n := vget img l (base + 1)) (by omega) (by omega) (by omega)
          refine need_of (by omega) (bind_of hu ?_)
          rw [if_pos rfl]
          refine bind_of (emay_eq _) ?_
          unfold tentry_J4
          cases hm : mayB (strOfNums (bytesF (nameW img l base) (vget img l (base + 1)).toNat)) with
          | true =>
            rw [if_neg (by decide), if_pos rfl]
            exact need_of (by omega) rfl
          | false => rfl
      have R : vget img l (base + 1) ≤ 40 → rAt15_J2 img l k base false = some (if mayB (strOfNums (bytesF (nameW img l base) (vget img l (base + 1)).toNat)) = true then (strOfNums (bytesF (nameW img l base) (vget img l (base + 1)).toNat), vget img l base, true, 0) else (ByteArray.empty, 0, false, 4)) := by
        intro h40
        unfold rAt15_J2
        rw [if_neg (by decide)]
        refine nameW_go (img := img) (l := l) (base := base) hb (fin := fun q => rAt15_J3 img l base q) (fun c q p hp hq => ?_) ?_
        · show rAt15_B0 img l base c q p = _
          unfold rAt15_B0
          by_cases hp8 : p < 8
          · rw [if_pos hp8, if_pos hp8]
            exact need_of (by omega) (need_of (by omega) (need_of (by omega) rfl))
          · rw [if_neg hp8, if_neg hp8]
        · show rAt15_J3 img l base (nameW img l base) = _
          unfold rAt15_J3
          have hu := runpack_eq (ws := nameW img l base) (n := vget img l (base + 1)) (by omega) (by omega) (by omega)
          refine need_of (by omega) (bind_of hu ?_)
          refine bind_of (rmay15_eq _) ?_
          cases hm : mayB (strOfNums (bytesF (nameW img l base) (vget img l (base + 1)).toNat)) with
          | true =>
            rw [if_pos rfl, if_pos rfl]
            exact need_of (by omega) rfl
          | false => rfl
      by_cases h1v : vget img l (base + 1) < 1
      · simp only [if_pos h1v]
        rw [decide_eq_false (show ¬ vget img l (base + 1) > 40 by omega), T (by omega), show (vget img l (base + 1)).toNat = 0 by omega]
        have e0 : bytesF (nameW img l base) 0 = [] := rfl
        rw [e0, mayB_nil, if_neg (by decide)]
        unfold rAt15_J2
        rw [if_pos rfl]
        exact ⟨_, rfl, rfl, .inr ⟨rfl, rfl, rfl⟩, fun _ => .inr rfl, fun q => by cases q⟩
      simp only [if_neg h1v]
      by_cases h40 : vget img l (base + 1) > 40
      · rw [decide_eq_true h40]
        exact bad
      · rw [decide_eq_false h40, T (by omega), R (by omega)]
        generalize strOfNums (bytesF (nameW img l base) (vget img l (base + 1)).toNat) = s
        cases hm : mayB s with
        | true =>
          simp only [if_true]
          exact ⟨_, rfl, rfl, .inl ⟨rfl, rfl, hm, by simp only; omega⟩, fun _ => .inl rfl, fun _ => ok0⟩
        | false =>
          simp only [Bool.false_eq_true, if_false]
          exact ⟨_, rfl, rfl, .inr ⟨rfl, rfl, rfl⟩, fun _ => .inr rfl, fun q => by cases q⟩
  · simp only [if_neg h2]
    exact done
theorem find_go (hv : VI img l) (hl : img.length ≤ 6232) (h0 : (igetM img l gw gi gb n).2 = 0) {tx : ByteArray} (hm : mayB tx = true) {b : Nat} (hb : b < 12) (he : ebegin_M tx = some (b : Int)) : ∀ (t k N : Nat), k + t = 12 → t < N →
    ∃ x : ByteArray × Int × Int × Int, rounds (fun k_ c_ (s_ : Unit) => tfind_R40 img l gw gi gb n tx (b : Int) k_ c_) (fun s_ => tfind_D40) t k () = some x ∧ iter (fun k_ s_ => rFind15_B0 img l gw gi gb n tx k_ s_) N (k : Int) = some x ∧
      (x.2.2.2 = 0 → 0 ≤ x.2.2.1 ∧ x.2.2.1 < 12) ∧ (x.2.2.2 = 6 → ∀ j, k ≤ j → j < 12 → ∃ a : Int × Int, bat_M img l gw gi gb n (((b + j) % 12 : Nat) : Int) = some a ∧ a.2 = 0) ∧ (x.2.2.2 = 0 ∨ x.2.2.2 = 4 ∨ x.2.2.2 = 6) := by
  intro t
  induction t with
  | zero =>
    intro k N hk hN
    obtain ⟨m, rfl⟩ : ∃ m, N = m + 1 := ⟨N - 1, by omega⟩
    refine ⟨(ByteArray.empty, 0, 0, 6), rfl, ?_, fun q => (by cases q), fun _ j h1 h2 => (by omega), .inr (.inr rfl)⟩
    show rFind15_B0 img l gw gi gb n tx (iter _ m) (k : Int) = _
    unfold rFind15_B0
    rw [if_neg (by omega)]
    rfl
  | succ t ih =>
    intro k N hk hN
    obtain ⟨m, rfl⟩ : ∃ m, N = m + 1 := ⟨N - 1, by omega⟩
    obtain ⟨y, i1, i2, i3, i4, i5⟩ := ih (k + 1) m (by omega) (by omega)
    obtain ⟨x, e1, e2, e3, e4, e5⟩ := ent_eq (gw := gw) (gi := gi) (gb := gb) (n := n) (k := (((b + k) % 12 : Nat) : Int)) hv hl (by omega)
    have ez : (((b : Nat) : Int) + (k : Int)) % 12 = (((b + k) % 12 : Nat) : Int) := by omega
    have et : (((b : Nat) : Int) + (k : Int)).tmod 12 = (((b + k) % 12 : Nat) : Int) := by rw [Int.tmod_eq_emod_of_nonneg (by omega)]; omega
    have e4' := e4 h0
    obtain ⟨c1, hc1⟩ : ∃ c1, c1 = rounds (fun k_ c_ (s_ : Unit) => tfind_R40 img l gw gi gb n tx (b : Int) k_ c_) (fun s_ => tfind_D40) t (k + 1) := ⟨_, rfl⟩
    obtain ⟨c2, hc2⟩ : ∃ c2, c2 = iter (fun k_ s_ => rFind15_B0 img l gw gi gb n tx k_ s_) m := ⟨_, rfl⟩
    rw [← hc1] at i1
    rw [← hc2] at i2
    have L : rounds (fun k_ c_ (s_ : Unit) => tfind_R40 img l gw gi gb n tx (b : Int) k_ c_) (fun s_ => tfind_D40) (t + 1) k () = (if x.2.2.2 = 0 then (if x.1 = tx ∧ x.2.1 = x.2.1 then some (x.1, x.2.1, (((b + k) % 12 : Nat) : Int), 0) else some y) else some (ByteArray.empty, 0, 0, x.2.2.2)) := by
      show tfind_R40 img l gw gi gb n tx (b : Int) k (rounds (fun k_ c_ (s_ : Unit) => tfind_R40 img l gw gi gb n tx (b : Int) k_ c_) (fun s_ => tfind_D40) t (k + 1)) = _
      rw [← hc1]
      unfold tfind_R40
      refine bind_of rfl ?_
      rw [ez]
      refine bind_of e2 ?_
      rw [i1]
      rfl
    have Rr : iter (fun k_ s_ => rFind15_B0 img l gw gi gb n tx k_ s_) (m + 1) (k : Int) = (if x.2.2.2 = 0 then (if x.2.2.1 = true ∧ x.1 = tx then some (x.1, x.2.1, (((b + k) % 12 : Nat) : Int), 0) else some y) else some (ByteArray.empty, 0, 0, x.2.2.2)) := by
      show rFind15_B0 img l gw gi gb n tx (iter (fun k_ s_ => rFind15_B0 img l gw gi gb n tx k_ s_) m) (k : Int) = _
      rw [← hc2]
      unfold rFind15_B0
      rw [if_pos (by omega), rbegin15_eq]
      refine bind_of he (need_of (by omega) ?_)
      rw [et]
      refine bind_of e1 ?_
      have go : rFind15_J3 c2 (k : Int) (b : Int) x false = some y := by
        unfold rFind15_J3
        rw [if_neg (by decide)]
        exact need_of (by omega) i2
      by_cases hx0 : x.2.2.2 = 0
      · simp only [if_pos hx0]
        by_cases his : x.2.2.1 = true
        · simp only [if_pos his]
          by_cases hn : x.1 = tx
          · rw [if_pos ⟨his, hn⟩, toList_iff.2 hn]
            unfold rFind15_J3
            rw [if_pos rfl, et]
          · have : (x.1.toList == tx.toList) = false := by
              cases hq : (x.1.toList == tx.toList) with
              | false => rfl
              | true => exact absurd (toList_iff.1 hq) hn
            rw [if_neg fun q => hn q.2, this]
            exact go
        · rw [if_neg his, if_neg fun q => his q.1]
          exact go
      · simp only [if_neg hx0]
    rw [L, Rr]
    by_cases hx0 : x.2.2.2 = 0
    · simp only [if_pos hx0]
      by_cases hn : x.1 = tx
      · have his : x.2.2.1 = true := by
          rcases e3 with ⟨a, _⟩ | ⟨_, a, _⟩
          · exact a
          · have h1 := (mayB_iff.1 hm).1
            rw [← hn, a] at h1
            simp at h1
        rw [if_pos ⟨hn, trivial⟩, if_pos ⟨his, hn⟩]
        exact ⟨_, rfl, rfl, fun _ => (by simp only; omega), fun q => (by cases q), .inl rfl⟩
      · rw [if_neg fun q => hn q.1, if_neg fun q => hn q.2]
        refine ⟨y, rfl, rfl, i3, fun q j h1 h2 => ?_, i5⟩
        by_cases ej : j = k
        · rw [ej]; exact e5 hx0
        · exact i4 q j (by omega) h2
    · simp only [if_neg hx0]
      refine ⟨_, rfl, rfl, fun q => absurd q hx0, fun q => ?_, ?_⟩
      · simp only at q; omega
      · simp only; omega
theorem iget_err : ((igetM img l gw gi gb n).2 = 0 ∨ (igetM img l gw gi gb n).2 = 1 ∨ (igetM img l gw gi gb n).2 = 4 ∨ (igetM img l gw gi gb n).2 = 8) := by
  have := ifind_range img.length gw gi gb n
  unfold igetM
  split
  · split
    · exact .inl rfl
    · exact .inr (.inr (.inl rfl))
  · simp only; omega
theorem find_eq (hv : VI img l) (hl : img.length ≤ 6232) (tx : ByteArray) : ∃ x : ByteArray × Int × Int × Int, eFind_M img l gw gi gb n tx = some x ∧ rFind15_M img l gw gi gb n tx = some x ∧
    (((igetM img l gw gi gb n).2 ≠ 0 ∧ x.2.2.2 = (igetM img l gw gi gb n).2) ∨ ((igetM img l gw gi gb n).2 = 0 ∧ (igetM img l gw gi gb n).1.k ≠ 2 ∧ x.2.2.2 = 10) ∨ ((igetM img l gw gi gb n).2 = 0 ∧ (igetM img l gw gi gb n).1.k = 2 ∧ tfind_M img l gw gi gb n tx = some x ∧
      (x.2.2.2 = 0 → 0 ≤ x.2.2.1 ∧ x.2.2.1 < 12) ∧ (x.2.2.2 = 6 → mayB tx = true ∧ ∀ k : Nat, k < 12 → ∃ a : Int × Int, bat_M img l gw gi gb n (k : Int) = some a ∧ a.2 = 0))) ∧ (x.2.2.2 = 6 → (igetM img l gw gi gb n).2 = 0 ∧ (igetM img l gw gi gb n).1.k = 2) := by
  have her := iget_err (img := img) (l := l) (gw := gw) (gi := gi) (gb := gb) (n := n)
  unfold eFind_M rFind15_M
  by_cases h0 : (igetM img l gw gi gb n).2 = 0
  · simp only [if_pos h0]
    by_cases hk : (igetM img l gw gi gb n).1.k = 2
    · simp only [if_pos hk]
      rw [rmay15_eq]
      unfold tfind_M
      rw [emay_eq]
      simp only [Option.bind]
      cases hm : mayB tx with
      | false =>
        simp only [Bool.false_eq_true, if_false]
        exact ⟨_, rfl, rfl, .inr (.inr ⟨h0, hk, rfl, fun q => (by cases q), fun q => (by cases q)⟩), fun q => (by cases q)⟩
      | true =>
        simp only [if_true]
        obtain ⟨b, hb, he⟩ := ebegin_range tx
        obtain ⟨x, e1, e2, e3, e4, e5⟩ := find_go hv hl h0 hm hb he 12 0 FUEL rfl (fuel_lt (by omega))
        rw [he]
        have hbn : (0 : Int) ≤ (b : Int) ∧ (b : Int) ≤ 12 := by omega
        simp only [need, if_pos hbn]
        rw [e1]
        refine ⟨x, rfl, e2, .inr (.inr ⟨h0, hk, rfl, e3, fun q => ⟨trivial, fun k hk => ?_⟩⟩), fun _ => ⟨h0, hk⟩⟩
        have := e4 q ((k + 12 - b) % 12) (by omega) (by omega)
        rw [show (b + (k + 12 - b) % 12) % 12 = k by omega] at this
        exact this
    · simp only [if_neg hk]
      exact ⟨_, rfl, rfl, .inr (.inl ⟨h0, hk, rfl⟩), fun q => by cases q⟩
  · simp only [if_neg h0, Option.bind]
    refine ⟨_, rfl, rfl, .inl ⟨h0, rfl⟩, fun q => ?_⟩
    simp only at q
    omega
end
end Go.Proofs.YtmmclabkkigiaaaGreat

set_option maxRecDepth 20000
set_option maxHeartbeats 8000000
namespace Go.Proofs.YtmmclabkkigiaaaGreat
open Go Go.RowKit
def rAdd15_B0 (img : List Int) (l : List (Int × Int)) (gw : Int) (gi : Int) (gb : Int) (n_ : Int) (xn_ : ByteArray) (xi_ : Int) (k38 : Int → Option (Int × List (Int × Int))) (p37 : Int) : Option (Int × List (Int × Int)) :=
 if p37 < 12 then ((rbegin15_M xn_).bind fun r52 =>
need (-9223372036854775808 ≤ (r52 + p37) ∧ (r52 + p37) ≤ 9223372036854775807) <|
(rat13_M img l gw gi gb n_ ((r52 + p37).tmod 12)).bind fun r59 =>
if r59.1 = 0 then (need ((img.length : Int) ≤ 1000000000000) <|
if May gw gi gb ∧ wordsOf gw gi gb ≤ (img.length : Int) then ((rfree_M img l gi gb (placeOf 6 gw gi gb 0) (placeOf 7 gw gi gb 0)).bind fun r79 =>
(rneed13_M img l gw gi gb n_ ((r52 + p37).tmod 12)).bind fun r86 =>
if r79.2 < r86 then (some (7, l)) else ((rTake13_M img l gw gi gb n_ ((r52 + p37).tmod 12)).bind fun r96 =>
if r96.2.1 = 0 then (need (0 ≤ xi_ ∧ xi_ ≤ 18446744073709551615) <|
need (0 ≤ (xn_.size : Int) ∧ (xn_.size : Int) ≤ 18446744073709551615) <|
(rpack_M xn_).bind fun r142 =>
need (r142.length ≤ 1000000) <|
need ((([xi_, (xn_.size : Int)] ++ r142) : List Int).length ≤ 1000000) <|
need (-1 ≤ (placeOf 9 gw gi gb r96.1) ∧ (placeOf 9 gw gi gb r96.1) ≤ 1000000) <|
(some (vwrites img (placeOf 9 gw gi gb r96.1) r96.2.2 0 ([xi_, (xn_.size : Int)] ++ r142))).bind fun r172 =>
some (r172.1, r172.2)) else (some (r96.2.1, r96.2.2)))) else ((some (if May gw gi gb then (8 : Int) else 1)).bind fun r325 =>
if r325 = 0 then (none) else (some (r325, l)))) else (need (-9223372036854775808 ≤ (p37 + 1) ∧ (p37 + 1) ≤ 9223372036854775807) <|
k38 (p37 + 1))) else (some (16, l))
def rAdd15_J1 (img : List Int) (l : List (Int × Int)) (gw : Int) (gi : Int) (gb : Int) (n_ : Int) (xn_ : ByteArray) (xi_ : Int) : Option (Int × List (Int × Int)) :=
 (rFind15_M img l gw gi gb n_ xn_).bind fun r11 =>
if r11.2.2.2 = 0 then (some (9, l)) else (if r11.2.2.2 = 6 then (iter (fun k_ s_ => rAdd15_B0 img l gw gi gb n_ xn_ xi_ k_ s_) FUEL 0) else (some (r11.2.2.2, l)))
def rAdd15_M (img : List Int) (l : List (Int × Int)) (gw : Int) (gi : Int) (gb : Int) (n_ : Int) (xn_ : ByteArray) (xi_ : Int) : Option (Int × List (Int × Int)) :=
 if May gw gi gb then (if xi_ < 1 then (some (1, l)) else (if xi_ ≥ gi then (some (1, l)) else (rAdd15_J1 img l gw gi gb n_ xn_ xi_))) else (rAdd15_J1 img l gw gi gb n_ xn_ xi_)
theorem rAdd15_walk {img : List Int} {l : List (Int × Int)} {gw : Int} {gi : Int} {gb : Int} {n_ : Int} {xn_ : ByteArray} {xi_ : Int} {vb : Nat} {r : Int × List (Int × Int)} (B : Nat) (w : World) (hm : rAdd15_M img l gw gi gb n_ xn_ xi_ = some r) : Spec Tryz.prog 23 #[(zp vb), (.agg #[(zi gw), (zi gi), (zi gb)]), (zi n_), (.agg #[(.string xn_), (zi xi_)])] B w [refA (ptr vb) img l] (fun v H' => v = .int .i64 r.1 ∧ H' = [refA (ptr vb) img r.2]) := by
 refine spec_W Tryz.func23 rfl fun l0 hs => ?_
 unfold rAdd15_M at hm
 refine W.sr fun K1 hK1 => ?_
 refine zN [(zi gw), (zi gi), (zi gb)] 37 hs fun b4 w2 hs3 => ?_
 refine zN [(.string xn_), (zi xi_)] 76 hs3 fun b7 w5 hs6 => ?_
 refine zE 1 (hK1 _ _ ?_)
 refine W.seq_join (fun s_ w_ => (∃ us, s_ = slots 118 [(0, (zp vb)), (2, (zi n_)), (5, (zp b4)), (7, (zp b7))] us) ∧ St B w l0 w_ [refA (ptr vb) img l, zb b4 37 [(zi gw), (zi gi), (zi gb)], zb b7 76 [(.string xn_), (zi xi_)]] ∧ rAdd15_J1 img l gw gi gb n_ xn_ xi_ = some r) ?_ ?_
 ·
  rintro _ w8 ⟨⟨us, rfl⟩, hs9, hm⟩
  unfold rAdd15_J1 at hm
  refine W.sr fun K10 hK10 => ?_
  refine zR 1 ?_
  refine zG ⟨b4, 0, none⟩ [(zi gw), (zi gi), (zi gb)] (cells_sub (hs9.heapAt 1 rfl) rfl) ?_
  refine zR 2 ?_
  refine zL ⟨b7, 0, none⟩ (.string xn_) (hs9.cellAt 2 rfl rfl) ?_
  obtain ⟨r11, h12, hm⟩ := bind_some hm
  refine zC11 hs9 (rFind15_walk (vb := vb) (gw := gw) (gi := gi) (gb := gb) (n_ := n_) (tx_ := xn_) (img := img) (l := l) (hm := h12) B _) fun w13 hs15 => ?_
  refine zR 4 ?_
  refine zN [(.string ByteArray.empty), (zi 0)] 76 hs15 fun b18 w16 hs17 => ?_
  refine zT 0 [(.string r11.1), (zi r11.2.1)] [(.string r11.1), (zi r11.2.1)] hs17 fun w19 hs21 => ?_
  refine zE 2 (hK10 _ _ ?_)
  refine W.seq fun K22 hK22 => ?_
  refine W.sr fun K23 hK23 => ?_
  refine zE 2 (hK23 _ _ ?_)
  refine W.cond (decide (r11.2.2.2 = 0)) (by kernel_rfl) (fun h24 => ?_) (fun h24 => ?_)
  ·
   obtain ⟨h24p, hm⟩ := iY hm h24
   refine W.sr fun K25 hK25 => ?_
   refine zE 1 (hK25 _ _ ?_)
   refine W.ret (ret_seq ?_)
   obtain rfl := some_inj hm
   have hs26 := St.f1 hs21
   have hs27 := St.tk1 hs26
   refine ret_of (zi 9) (by kernel_rfl) ⟨_, ⟨rfl, rfl⟩, hs27⟩
  obtain ⟨h24p, hm⟩ := iN hm h24
  refine W.skip ?_
  refine hK22 _ _ ?_
  refine W.seq fun K28 hK28 => ?_
  refine W.sr fun K29 hK29 => ?_
  refine zE 2 (hK29 _ _ ?_)
  refine W.cond (!decide (r11.2.2.2 = 6)) (by kernel_rfl) (fun h30 => ?_) (fun h30 => ?_)
  rotate_left
  ·
   have h30p : r11.2.2.2 = 6 := of_decide_eq_true (bnot_false h30)
   replace hm := ite_yes hm h30p
   refine W.skip ?_
   refine hK28 _ _ ?_
   refine W.sr fun K31 hK31 => ?_
   refine zR 1 ?_
   refine zG ⟨b4, 0, none⟩ [(zi gw), (zi gi), (zi gb)] (cells_sub (hs21.heapAt 2 rfl) rfl) ?_
   refine zR 2 ?_
   refine zN [(zp vb), (zi gw), (zi gi), (zi gb), (zi n_)] 123 hs21 fun b34 w32 hs33 => ?_
   refine zE 1 (hK31 _ _ ?_)
   refine W.seq fun K35 hK35 => ?_
   refine W.sr fun K36 hK36 => ?_
   refine zE 1 (hK36 _ _ ?_)
   refine W.block ?_
   have hs42 := St.f1 hs33
   have hs43 := St.f1 hs42
   have hs44 := St.f4 hs43
   have hs45 := St.f4 hs44
   have hs46 := St.f4 hs45
   refine W.loop_iter (G := Int) (σ := Int) (fun | p37 => p37) (fun | p37, s_, w_ => (∃ us, s_ = slots 118 [(0, (zp vb)), (5, (zp b4)), (7, (zp b7)), (12, (zp b34)), (13, (zi p37))] us) ∧ St B w l0 w_ [refA (ptr vb) img l, zb b4 37 [(zi gw), (zi gi), (zi gb)], zb b7 76 [(.string xn_), (zi xi_)], zb b34 123 [(zp vb), (zi gw), (zi gi), (zi gb), (zi n_)], zb b18 76 [(.string r11.1), (zi r11.2.1)]]) 0 ⟨slots_intro _ (by kernel_rfl), hs46⟩ hm ?_
   rintro k38 ih39 p37 _ w40 ⟨⟨us, rfl⟩, hs41⟩ hm
   replace hm : rAdd15_B0 img l gw gi gb n_ xn_ xi_ k38 p37 = some r := hm
   unfold rAdd15_B0 at hm
   refine W.seq fun K47 hK47 => ?_
   refine W.sr fun K48 hK48 => ?_
   refine zE 2 (hK48 _ _ ?_)
   refine W.cond (decide (p37 < 12)) (by kernel_rfl) (fun h49 => ?_) (fun h49 => ?_)
   ·
    obtain ⟨h49p, hm⟩ := iY hm h49
    refine W.skip ?_
    refine hK47 _ _ ?_
    refine W.seq fun K50 hK50 => ?_
    refine W.block ?_
    refine W.sr fun K51 hK51 => ?_
    refine zR 1 ?_
    refine zL ⟨b7, 0, none⟩ (.string xn_) (hs41.cellAt 2 rfl rfl) ?_
    obtain ⟨r52, h53, hm⟩ := bind_some hm
    refine zC00 hs41 (rbegin15_walk (tx_ := xn_) (hm := h53) B _) fun w54 hs56 => ?_
    refine zR 1 ?_
    obtain ⟨h57, hm⟩ := need_some hm
    refine zI _ (wrap_i64 h57.1 h57.2) ?_
    refine zE 2 (hK51 _ _ ?_)
    refine W.sr fun K58 hK58 => ?_
    refine zR 2 ?_
    obtain ⟨r59, h60, hm⟩ := bind_some hm
    refine zC00 hs56 (rat13_walk (k_ := (r52 + p37).tmod 12) (img := img) (l := l) (gw := gw) (gi := gi) (gb := gb) (n_ := n_) (hmb := (hs56.heapAt 3 rfl)) (hv := (hs56.entAt 0 rfl refA_at)) (hm := h60) B _) fun w61 hs63 => ?_
    refine zE 5 (hK58 _ _ ?_)
    refine W.seq fun K64 hK64 => ?_
    refine W.sr fun K65 hK65 => ?_
    refine zE 2 (hK65 _ _ ?_)
    refine W.cond (!decide (r59.1 = 0)) (by kernel_rfl) (fun h66 => ?_) (fun h66 => ?_)
    rotate_left
    ·
     have h66p : r59.1 = 0 := of_decide_eq_true (bnot_false h66)
     replace hm := ite_yes hm h66p
     refine W.skip ?_
     refine hK64 _ _ ?_
     refine W.sr fun K67 hK67 => ?_
     refine zR 1 ?_
     refine zG ⟨b4, 0, none⟩ [(zi gw), (zi gi), (zi gb)] (cells_sub (hs63.heapAt 1 rfl) rfl) ?_
     obtain ⟨h68, hm⟩ := need_some hm
     rcases Bool.eq_false_or_eq_true (decide (May gw gi gb ∧ wordsOf gw gi gb ≤ (img.length : Int))) with h69 | h69
     ·
      obtain ⟨h69p, hm⟩ := iY hm h69
      refine ops_call0 hs63 (by kernel_rfl) (rnew_ok (gw := gw) (gi := gi) (gb := gb) (hv := (hs63.entAt 0 rfl refA_at)) (hz := h68) (hP := h69p) B _) ?_
      rintro _ _ w73 ⟨b70, b71, b72, rfl, rfl⟩ hs74
      have hs75 := St.ap3 hs74
      refine zE 5 (hK67 _ _ ?_)
      refine W.seq fun K76 hK76 => ?_
      refine W.sr fun K77 hK77 => ?_
      refine zE 2 (hK77 _ _ ?_)
      refine W.cond_false false (by kernel_rfl) rfl ?_
      refine W.skip ?_
      refine hK76 _ _ ?_
      refine W.sr fun K78 hK78 => ?_
      refine zR 1 ?_
      obtain ⟨r79, h80, hm⟩ := bind_some hm
      refine zC00 hs75 (rfree_walk (hab := (hs75.heapAt 0 rfl)) (hib := (hs75.heapAt 1 rfl)) (hbb := (hs75.heapAt 2 rfl)) (hv := (hs75.entAt 3 rfl refA_at)) (hm := h80) B _) fun w81 hs83 => ?_
      refine zE 5 (hK78 _ _ ?_)
      refine W.seq fun K84 hK84 => ?_
      refine W.sr fun K85 hK85 => ?_
      refine zR 3 ?_
      obtain ⟨r86, h87, hm⟩ := bind_some hm
      refine zC00 hs83 (rneed13_walk (k_ := (r52 + p37).tmod 12) (img := img) (l := l) (gw := gw) (gi := gi) (gb := gb) (n_ := n_) (hmb := (hs83.heapAt 6 rfl)) (hv := (hs83.entAt 3 rfl refA_at)) (hm := h87) B _) fun w88 hs90 => ?_
      refine zE 1 (hK85 _ _ ?_)
      refine W.cond (decide (r79.2 < r86)) (by kernel_rfl) (fun h91 => ?_) (fun h91 => ?_)
      ·
       obtain ⟨h91p, hm⟩ := iY hm h91
       refine W.sr fun K92 hK92 => ?_
       refine zE 1 (hK92 _ _ ?_)
       refine W.ret (ret_seq (ret_block (ret_seq (ret_seq (ret_block (ret_seq ?_))))))
       obtain rfl := some_inj hm
       have hs93 := St.f3 hs90
       have hs94 := St.tk1 hs93
       refine ret_of (zi 7) (by kernel_rfl) ⟨_, ⟨rfl, rfl⟩, hs94⟩
      obtain ⟨h91p, hm⟩ := iN hm h91
      refine W.skip ?_
      refine hK84 _ _ ?_
      refine W.sr fun K95 hK95 => ?_
      refine zR 2 ?_
      obtain ⟨r96, h97, hm⟩ := bind_some hm
      have hs98 := St.f3 hs90
      have hs99 := St.f6 hs98
      refine zC22 hs99 (rTake13_walk (mb := b34) (vb := vb) (k_ := (r52 + p37).tmod 12) (img := img) (l := l) (gw := gw) (gi := gi) (gb := gb) (n_ := n_) (hm := h97) B _) fun w100 hs102 => ?_
      refine zE 5 (hK95 _ _ ?_)
      refine W.seq fun K103 hK103 => ?_
      refine W.sr fun K104 hK104 => ?_
      refine zE 2 (hK104 _ _ ?_)
      refine W.cond (!decide (r96.2.1 = 0)) (by kernel_rfl) (fun h105 => ?_) (fun h105 => ?_)
      rotate_left
      ·
       have h105p : r96.2.1 = 0 := of_decide_eq_true (bnot_false h105)
       replace hm := ite_yes hm h105p
       refine W.skip ?_
       refine hK103 _ _ ?_
       refine W.seq fun K106 hK106 => ?_
       have hs107 := hs102.drew
       have hs108 := St.f7 hs107
       have hs109 := St.f7 hs108
       have hs110 := St.f7 hs109
       have hs111 := St.f7 hs110
       have hs112 := St.f7 hs111
       have hs113 := St.f7 hs112
       have hs114 := St.f6 hs113
       have hs115 := St.tk7 hs114
       refine W.regionD [(0, 0), (0, 0), (0, 0), (6, 6), (0, 0), (16, 16), (32, 32), (0, 0), (128, 128), (256, 256), (512, 512), (1088, 1088), (0, 0), (4096, 4096), (8200, 8192), (18432, 18432), (32777, 32777), (131071, 65536)] (fun w_ => St B w l0 w_ [zb b34 123 [(zp vb), (zi gw), (zi gi), (zi gb), (zi n_)], zb b70 170 [(zp vb), (zi gw), (zi gi), (zi gb), (zp b71), (zp b72)], zb b71 168 [(zp vb), (zi (placeOf 6 gw gi gb 0)), (zi gi)], zb b72 168 [(zp vb), (zi (placeOf 7 gw gi gb 0)), (zi gb)], zb b4 37 [(zi gw), (zi gi), (zi gb)], zb b7 76 [(.string xn_), (zi xi_)], zb b18 76 [(.string r11.1), (zi r11.2.1)]]) (by kernel_rfl) hs115 ?_
       refine zA (zp vb) 0 hs115 ?_
       refine any_R 1 (by kernel_rfl) (fun _ hS_ => runs_loadAgg (ad := ⟨b4, 0, none⟩) (cs := [(zi gw), (zi gi), (zi gb)]) (by kernel_rfl) (cells_sub (hS_.heapAt 4 rfl) rfl)) hs115 ?_
       refine zA (zi r96.1) 2 hs115 ?_
       refine zA (.pointer (some ⟨b7, 1, none⟩)) 4 hs115 ?_
       refine zB 5 ⟨b7, 1, none⟩ (zi xi_) (fun _ hS_ => (hS_.cellAt 5 rfl rfl)) hs115 ?_
       obtain ⟨h116, hm⟩ := need_some hm
       refine any_val (v := .int .u64 (IntKind.u64.wrap xi_)) (v' := .int .u64 xi_) 6 (by kernel_rfl) (fun _ => by kernel_rfl) (congrArg (Value.int .u64) (wrap_u64 h116.1 (Int.lt_of_le_of_lt h116.2 (by decide)))) hs115 ?_
       refine zA (zp b7) 7 hs115 ?_
       refine zB 8 ⟨b7, 0, none⟩ (.string xn_) (fun _ hS_ => (hS_.cellAt 5 rfl rfl)) hs115 ?_
       refine zA (zi (xn_.size : Int)) 9 hs115 ?_
       obtain ⟨h117, hm⟩ := need_some hm
       refine any_val (v := .int .u64 (IntKind.u64.wrap (xn_.size : Int))) (v' := .int .u64 (xn_.size : Int)) 10 (by kernel_rfl) (fun _ => by kernel_rfl) (congrArg (Value.int .u64) (wrap_u64 h117.1 (Int.lt_of_le_of_lt h117.2 (by decide)))) hs115 ?_
       refine zA (zp b7) 12 hs115 ?_
       refine zB 13 ⟨b7, 0, none⟩ (.string xn_) (fun _ hS_ => (hS_.cellAt 5 rfl rfl)) hs115 ?_
       refine any_step2 3 11 (by kernel_rfl) (by kernel_rfl) (by kernel_rfl) ?_ ?_
       ·
        refine zC00 hs107 (rblockat_spec (gw := gw) (gi := gi) (gb := gb) (n_ := r96.1) B _) fun w118 hs120 => ?_
        have hs121 := St.f7 hs120
        have hs122 := St.f7 hs121
        have hs123 := St.f7 hs122
        have hs124 := St.f7 hs123
        have hs125 := St.f7 hs124
        have hs126 := St.f7 hs125
        have hs127 := St.f6 hs126
        have hs128 := St.tk7 hs127
        refine ops_done (by kernel_rfl) ⟨hs128, ?_⟩
        refine any_step2 11 14 (by kernel_rfl) (by kernel_rfl) (by kernel_rfl) ?_ ?_
        ·
         refine ops_new (fun b => .slice (some ⟨b, 0, none⟩) 2 2) (.cells [(zu xi_), (zu (xn_.size : Int))].toArray 34 (0, 0)) hs120 (by kernel_rfl) (fun b131 w129 hs130 => ?_)
         have hs132 := St.f8 hs130
         have hs133 := St.f8 hs132
         have hs134 := St.f8 hs133
         have hs135 := St.f8 hs134
         have hs136 := St.f8 hs135
         have hs137 := St.f8 hs136
         have hs138 := St.f7 hs137
         have hs139 := St.tk7 hs138
         refine ops_done (by kernel_rfl) ⟨hs139, ?_⟩
         refine any_step 14 (by kernel_rfl) (by kernel_rfl) ?_
         obtain ⟨r142, h143, hm⟩ := bind_some hm
         refine ops_call0 hs130 (by kernel_rfl) (rpack_walk (hm := h143) B _) ?_
         rintro _ _ w144 ⟨a140, c141, rfl, rfl⟩ hs145
         have hs146 := St.ap1 hs145
         have hs147 := St.f9 hs146
         have hs148 := St.f9 hs147
         have hs149 := St.f9 hs148
         have hs150 := St.f9 hs149
         have hs151 := St.f9 hs150
         have hs152 := St.f9 hs151
         have hs153 := St.f8 hs152
         have hs154 := St.tk7 hs153
         refine ops_done (by kernel_rfl) ⟨hs154, ?_⟩
         refine any_step 15 (by kernel_rfl) (by kernel_rfl) ?_
         have hs155 := St.f1 hs146
         have hs156 : St B w l0 w144 [kU64.row (some ⟨b131, 0, none⟩) 2 ([xi_, (xn_.size : Int)]), kU64.row a140 c141 r142, zb b34 123 [(zp vb), (zi gw), (zi gi), (zi gb), (zi n_)], refA (ptr vb) img r96.2.2, zb b70 170 [(zp vb), (zi gw), (zi gi), (zi gb), (zp b71), (zp b72)], zb b71 168 [(zp vb), (zi (placeOf 6 gw gi gb 0)), (zi gi)], zb b72 168 [(zp vb), (zi (placeOf 7 gw gi gb 0)), (zi gb)], zb b4 37 [(zi gw), (zi gi), (zi gb)], zb b7 76 [(.string xn_), (zi xi_)], zb b18 76 [(.string r11.1), (zi r11.2.1)]] := St.kblk kU64 [xi_, (xn_.size : Int)] hs155 rfl rfl (by simp only [List.length_cons, List.length_nil]; decide)
         obtain ⟨h161, hm⟩ := need_some hm
         refine ops_appendK kU64 (bytes := 8) (a' := a140) (c' := c141) (l := [xi_, (xn_.size : Int)]) (m := r142) hs156 (by kernel_rfl) (St.capnil kU64 hs156 1 rfl) (St.kcells kU64 hs156 1 rfl) (by unfold maxLen; (try simp only [List.length_cons, List.length_nil]); omega) (by (try simp only [List.length_cons, List.length_nil]); omega) (fun a157 c158 w159 hs160 => ?_)
         have hs162 := St.f9 hs160
         have hs163 := St.f9 hs162
         have hs164 := St.f9 hs163
         have hs165 := St.f9 hs164
         have hs166 := St.f9 hs165
         have hs167 := St.f9 hs166
         have hs168 := St.f8 hs167
         have hs169 := St.tk7 hs168
         refine ops_done (by kernel_rfl) ⟨hs169, ?_⟩
         refine any_step 16 (by kernel_rfl) (by kernel_rfl) ?_
         obtain ⟨h170, hm⟩ := need_some hm
         obtain ⟨h171, hm⟩ := need_some hm
         obtain ⟨r172, h173, hm⟩ := bind_some hm
         replace h173 := some_inj h173
         have hs176 := St.f3 hs160
         refine ops_call2 hs176 (by kernel_rfl) (rall_spec (b := vb) (img := img) (l := r96.2.2) (at_ := (placeOf 9 gw gi gb r96.1)) (la := a157) (lc := c158) (ws := ([xi_, (xn_.size : Int)] ++ r142)) (n := ([xi_, (xn_.size : Int)] ++ r142).length) (hn := rfl) (hsz := h170) (hat := h171) B _) ?_
         rintro _ _ w177 ⟨hv174, hH175⟩ hs178
         rw [h173] at hv174
         try rw [h173] at hH175
         subst hv174 hH175
         have hs179 := St.ap1 hs178
         have hs180 := St.f8 hs179
         have hs181 := St.f8 hs180
         have hs182 := St.f8 hs181
         have hs183 := St.f8 hs182
         have hs184 := St.f8 hs183
         have hs185 := St.f8 hs184
         have hs186 := St.f8 hs185
         have hs187 := St.tk7 hs186
         refine ops_done (by kernel_rfl) ⟨hs187, ?_⟩
         refine zA (zi r172.1) 17 hs187 ?_
         refine any_done (by kernel_rfl) ?_
         refine hK106 _ _ ?_
         refine W.ret (ret_block (ret_seq (ret_seq (ret_block (ret_seq ?_)))))
         obtain rfl := some_inj hm
         have hs188 := St.tk1 hs179
         refine ret_of (zi r172.1) (by kernel_rfl) ⟨_, ⟨rfl, rfl⟩, hs188⟩
        obtain ⟨r191, h192, hm⟩ := bind_some hm
        refine ops_call0 hs120 (by kernel_rfl) (rpack_walk (hm := h192) B _) ?_
        rintro _ _ w193 ⟨a189, c190, rfl, rfl⟩ hs194
        have hs195 := St.ap1 hs194
        have hs196 := St.f8 hs195
        have hs197 := St.f8 hs196
        have hs198 := St.f8 hs197
        have hs199 := St.f8 hs198
        have hs200 := St.f8 hs199
        have hs201 := St.f8 hs200
        have hs202 := St.f7 hs201
        have hs203 := St.tk7 hs202
        refine ops_done (by kernel_rfl) ⟨hs203, ?_⟩
        refine any_step 11 (by kernel_rfl) (by kernel_rfl) ?_
        refine ops_new (fun b => .slice (some ⟨b, 0, none⟩) 2 2) (.cells [(zu xi_), (zu (xn_.size : Int))].toArray 34 (0, 0)) hs195 (by kernel_rfl) (fun b206 w204 hs205 => ?_)
        have hs207 := St.f9 hs205
        have hs208 := St.f9 hs207
        have hs209 := St.f9 hs208
        have hs210 := St.f9 hs209
        have hs211 := St.f9 hs210
        have hs212 := St.f9 hs211
        have hs213 := St.f8 hs212
        have hs214 := St.tk7 hs213
        refine ops_done (by kernel_rfl) ⟨hs214, ?_⟩
        refine any_step 15 (by kernel_rfl) (by kernel_rfl) ?_
        have hs215 : St B w l0 w204 [kU64.row (some ⟨b206, 0, none⟩) 2 ([xi_, (xn_.size : Int)]), kU64.row a189 c190 r191, zb b34 123 [(zp vb), (zi gw), (zi gi), (zi gb), (zi n_)], refA (ptr vb) img r96.2.2, zb b70 170 [(zp vb), (zi gw), (zi gi), (zi gb), (zp b71), (zp b72)], zb b71 168 [(zp vb), (zi (placeOf 6 gw gi gb 0)), (zi gi)], zb b72 168 [(zp vb), (zi (placeOf 7 gw gi gb 0)), (zi gb)], zb b4 37 [(zi gw), (zi gi), (zi gb)], zb b7 76 [(.string xn_), (zi xi_)], zb b18 76 [(.string r11.1), (zi r11.2.1)]] := St.kblk kU64 [xi_, (xn_.size : Int)] hs205 rfl rfl (by simp only [List.length_cons, List.length_nil]; decide)
        obtain ⟨h220, hm⟩ := need_some hm
        refine ops_appendK kU64 (bytes := 8) (a' := a189) (c' := c190) (l := [xi_, (xn_.size : Int)]) (m := r191) hs215 (by kernel_rfl) (St.capnil kU64 hs215 1 rfl) (St.kcells kU64 hs215 1 rfl) (by unfold maxLen; (try simp only [List.length_cons, List.length_nil]); omega) (by (try simp only [List.length_cons, List.length_nil]); omega) (fun a216 c217 w218 hs219 => ?_)
        have hs221 := St.f9 hs219
        have hs222 := St.f9 hs221
        have hs223 := St.f9 hs222
        have hs224 := St.f9 hs223
        have hs225 := St.f9 hs224
        have hs226 := St.f9 hs225
        have hs227 := St.f8 hs226
        have hs228 := St.tk7 hs227
        refine ops_done (by kernel_rfl) ⟨hs228, ?_⟩
        refine any_step 16 (by kernel_rfl) (by kernel_rfl) ?_
        obtain ⟨h229, hm⟩ := need_some hm
        obtain ⟨h230, hm⟩ := need_some hm
        obtain ⟨r231, h232, hm⟩ := bind_some hm
        replace h232 := some_inj h232
        have hs235 := St.f3 hs219
        refine ops_call2 hs235 (by kernel_rfl) (rall_spec (b := vb) (img := img) (l := r96.2.2) (at_ := (placeOf 9 gw gi gb r96.1)) (la := a216) (lc := c217) (ws := ([xi_, (xn_.size : Int)] ++ r191)) (n := ([xi_, (xn_.size : Int)] ++ r191).length) (hn := rfl) (hsz := h229) (hat := h230) B _) ?_
        rintro _ _ w236 ⟨hv233, hH234⟩ hs237
        rw [h232] at hv233
        try rw [h232] at hH234
        subst hv233 hH234
        have hs238 := St.ap1 hs237
        have hs239 := St.f8 hs238
        have hs240 := St.f8 hs239
        have hs241 := St.f8 hs240
        have hs242 := St.f8 hs241
        have hs243 := St.f8 hs242
        have hs244 := St.f8 hs243
        have hs245 := St.f8 hs244
        have hs246 := St.tk7 hs245
        refine ops_done (by kernel_rfl) ⟨hs246, ?_⟩
        refine zA (zi r231.1) 17 hs246 ?_
        refine any_done (by kernel_rfl) ?_
        refine hK106 _ _ ?_
        refine W.ret (ret_block (ret_seq (ret_seq (ret_block (ret_seq ?_)))))
        obtain rfl := some_inj hm
        have hs247 := St.tk1 hs238
        refine ret_of (zi r231.1) (by kernel_rfl) ⟨_, ⟨rfl, rfl⟩, hs247⟩
       refine ops_new (fun b => .slice (some ⟨b, 0, none⟩) 2 2) (.cells [(zu xi_), (zu (xn_.size : Int))].toArray 34 (0, 0)) hs107 (by kernel_rfl) (fun b250 w248 hs249 => ?_)
       have hs251 := St.f8 hs249
       have hs252 := St.f8 hs251
       have hs253 := St.f8 hs252
       have hs254 := St.f8 hs253
       have hs255 := St.f8 hs254
       have hs256 := St.f8 hs255
       have hs257 := St.f7 hs256
       have hs258 := St.tk7 hs257
       refine ops_done (by kernel_rfl) ⟨hs258, ?_⟩
       refine any_step 3 (by kernel_rfl) (by kernel_rfl) ?_
       refine zC00 hs249 (rblockat_spec (gw := gw) (gi := gi) (gb := gb) (n_ := r96.1) B _) fun w259 hs261 => ?_
       have hs262 := St.f8 hs261
       have hs263 := St.f8 hs262
       have hs264 := St.f8 hs263
       have hs265 := St.f8 hs264
       have hs266 := St.f8 hs265
       have hs267 := St.f8 hs266
       have hs268 := St.f7 hs267
       have hs269 := St.tk7 hs268
       refine ops_done (by kernel_rfl) ⟨hs269, ?_⟩
       refine any_step 14 (by kernel_rfl) (by kernel_rfl) ?_
       obtain ⟨r272, h273, hm⟩ := bind_some hm
       refine ops_call0 hs261 (by kernel_rfl) (rpack_walk (hm := h273) B _) ?_
       rintro _ _ w274 ⟨a270, c271, rfl, rfl⟩ hs275
       have hs276 := St.ap1 hs275
       have hs277 := St.f9 hs276
       have hs278 := St.f9 hs277
       have hs279 := St.f9 hs278
       have hs280 := St.f9 hs279
       have hs281 := St.f9 hs280
       have hs282 := St.f9 hs281
       have hs283 := St.f8 hs282
       have hs284 := St.tk7 hs283
       refine ops_done (by kernel_rfl) ⟨hs284, ?_⟩
       refine any_step 15 (by kernel_rfl) (by kernel_rfl) ?_
       have hs285 := St.f1 hs276
       have hs286 : St B w l0 w274 [kU64.row (some ⟨b250, 0, none⟩) 2 ([xi_, (xn_.size : Int)]), kU64.row a270 c271 r272, zb b34 123 [(zp vb), (zi gw), (zi gi), (zi gb), (zi n_)], refA (ptr vb) img r96.2.2, zb b70 170 [(zp vb), (zi gw), (zi gi), (zi gb), (zp b71), (zp b72)], zb b71 168 [(zp vb), (zi (placeOf 6 gw gi gb 0)), (zi gi)], zb b72 168 [(zp vb), (zi (placeOf 7 gw gi gb 0)), (zi gb)], zb b4 37 [(zi gw), (zi gi), (zi gb)], zb b7 76 [(.string xn_), (zi xi_)], zb b18 76 [(.string r11.1), (zi r11.2.1)]] := St.kblk kU64 [xi_, (xn_.size : Int)] hs285 rfl rfl (by simp only [List.length_cons, List.length_nil]; decide)
       obtain ⟨h291, hm⟩ := need_some hm
       refine ops_appendK kU64 (bytes := 8) (a' := a270) (c' := c271) (l := [xi_, (xn_.size : Int)]) (m := r272) hs286 (by kernel_rfl) (St.capnil kU64 hs286 1 rfl) (St.kcells kU64 hs286 1 rfl) (by unfold maxLen; (try simp only [List.length_cons, List.length_nil]); omega) (by (try simp only [List.length_cons, List.length_nil]); omega) (fun a287 c288 w289 hs290 => ?_)
       have hs292 := St.f9 hs290
       have hs293 := St.f9 hs292
       have hs294 := St.f9 hs293
       have hs295 := St.f9 hs294
       have hs296 := St.f9 hs295
       have hs297 := St.f9 hs296
       have hs298 := St.f8 hs297
       have hs299 := St.tk7 hs298
       refine ops_done (by kernel_rfl) ⟨hs299, ?_⟩
       refine any_step 16 (by kernel_rfl) (by kernel_rfl) ?_
       obtain ⟨h300, hm⟩ := need_some hm
       obtain ⟨h301, hm⟩ := need_some hm
       obtain ⟨r302, h303, hm⟩ := bind_some hm
       replace h303 := some_inj h303
       have hs306 := St.f3 hs290
       refine ops_call2 hs306 (by kernel_rfl) (rall_spec (b := vb) (img := img) (l := r96.2.2) (at_ := (placeOf 9 gw gi gb r96.1)) (la := a287) (lc := c288) (ws := ([xi_, (xn_.size : Int)] ++ r272)) (n := ([xi_, (xn_.size : Int)] ++ r272).length) (hn := rfl) (hsz := h300) (hat := h301) B _) ?_
       rintro _ _ w307 ⟨hv304, hH305⟩ hs308
       rw [h303] at hv304
       try rw [h303] at hH305
       subst hv304 hH305
       have hs309 := St.ap1 hs308
       have hs310 := St.f8 hs309
       have hs311 := St.f8 hs310
       have hs312 := St.f8 hs311
       have hs313 := St.f8 hs312
       have hs314 := St.f8 hs313
       have hs315 := St.f8 hs314
       have hs316 := St.f8 hs315
       have hs317 := St.tk7 hs316
       refine ops_done (by kernel_rfl) ⟨hs317, ?_⟩
       refine zA (zi r302.1) 17 hs317 ?_
       refine any_done (by kernel_rfl) ?_
       refine hK106 _ _ ?_
       refine W.ret (ret_block (ret_seq (ret_seq (ret_block (ret_seq ?_)))))
       obtain rfl := some_inj hm
       have hs318 := St.tk1 hs309
       refine ret_of (zi r302.1) (by kernel_rfl) ⟨_, ⟨rfl, rfl⟩, hs318⟩
      have h105p : ¬ (r96.2.1 = 0) := of_decide_eq_false (bnot_true h105)
      replace hm := ite_no hm h105p
      refine W.sr fun K319 hK319 => ?_
      refine zE 2 (hK319 _ _ ?_)
      refine W.ret (ret_seq (ret_block (ret_seq (ret_seq (ret_block (ret_seq ?_))))))
      obtain rfl := some_inj hm
      have hs320 := St.f1 hs102
      have hs321 := St.tk1 hs320
      refine ret_of (zi r96.2.1) (by kernel_rfl) ⟨_, ⟨rfl, rfl⟩, hs321⟩
     obtain ⟨h69p, hm⟩ := iN hm h69
     refine zC00 hs63 (rnew_err (gw := gw) (gi := gi) (gb := gb) (hv := (hs63.entAt 0 rfl refA_at)) (hz := h68) (hN := h69p) B _) fun w322 hs324 => ?_
     refine zR 5 ?_
     obtain ⟨r325, h326, hm⟩ := bind_some hm
     replace h326 := some_inj h326
     refine ops_set 18 (v := .int .i64 r325) (Eq.trans (by kernel_rfl) (congrArg (Value.int .i64) h326)) ?_
     refine zD (hK67 _ _ ?_)
     refine W.seq fun K327 hK327 => ?_
     refine W.sr fun K328 hK328 => ?_
     refine zE 2 (hK328 _ _ ?_)
     refine W.cond (!decide (r325 = 0)) (by kernel_rfl) (fun h329 => ?_) (fun h329 => ?_)
     rotate_left
     ·
      have h329p : r325 = 0 := of_decide_eq_true (bnot_false h329)
      exact absurd h329p (fun e_ => (show ¬ ((if May gw gi gb then (8 : Int) else 1) = 0) by split <;> decide) (h326.trans e_))
     have h329p : ¬ (r325 = 0) := of_decide_eq_false (bnot_true h329)
     replace hm := ite_no hm h329p
     refine W.sr fun K330 hK330 => ?_
     refine zE 2 (hK330 _ _ ?_)
     refine W.ret (ret_seq (ret_block (ret_seq (ret_seq (ret_block (ret_seq ?_))))))
     obtain rfl := some_inj hm
     have hs331 := St.tk1 hs324
     refine ret_of (zi r325) (by kernel_rfl) ⟨_, ⟨rfl, rfl⟩, hs331⟩
    have h66p : ¬ (r59.1 = 0) := of_decide_eq_false (bnot_true h66)
    replace hm := ite_no hm h66p
    refine W.exit (exit_seq (exit_here ?_))
    refine hK50 _ _ ?_
    refine W.region ?_
    refine zR 1 ?_
    obtain ⟨h332, hm⟩ := need_some hm
    refine zI _ (wrap_i64 h332.1 h332.2) ?_
    refine zE 1 ?_
    refine loopAt_next ?_
    exact ih39 (p37 + 1) _ _ ⟨slots_intro _ (by kernel_rfl), hs63⟩ hm
   obtain ⟨h49p, hm⟩ := iN hm h49
   refine W.exit (exit_seq (exit_seq (exit_here ?_)))
   refine hK35 _ _ ?_
   refine W.sr fun K333 hK333 => ?_
   refine zE 1 (hK333 _ _ ?_)
   refine W.ret ?_
   obtain rfl := some_inj hm
   have hs334 := St.tk1 hs41
   refine ret_of (zi 16) (by kernel_rfl) ⟨_, ⟨rfl, rfl⟩, hs334⟩
  have h30p : ¬ (r11.2.2.2 = 6) := of_decide_eq_false (bnot_true h30)
  replace hm := ite_no hm h30p
  refine W.sr fun K335 hK335 => ?_
  refine zE 2 (hK335 _ _ ?_)
  refine W.ret (ret_seq ?_)
  obtain rfl := some_inj hm
  have hs336 := St.f1 hs21
  have hs337 := St.tk1 hs336
  refine ret_of (zi r11.2.2.2) (by kernel_rfl) ⟨_, ⟨rfl, rfl⟩, hs337⟩
 refine W.sr fun K338 hK338 => ?_
 refine zG ⟨b4, 0, none⟩ [(zi gw), (zi gi), (zi gb)] (cells_sub (hs6.heapAt 1 rfl) rfl) ?_
 refine zC00 hs6 (rmay_spec (gw := gw) (gi := gi) (gb := gb) B _) fun w339 hs341 => ?_
 refine zR 1 ?_
 rcases Bool.eq_false_or_eq_true (decide (May gw gi gb)) with h342 | h342
 ·
  obtain ⟨h342p, hm⟩ := iY hm h342
  refine zS 23 h342 ?_
  refine zS 22 h342 ?_
  refine zR 1 ?_
  refine zL ⟨b7, 1, none⟩ (zi xi_) (hs341.cellAt 0 rfl rfl) ?_
  refine zR 2 ?_
  rcases Bool.eq_false_or_eq_true (decide (xi_ < 1)) with h343 | h343
  ·
   obtain ⟨h343p, hm⟩ := iY hm h343
   refine zS 27 h343 ?_
   refine zS 26 h343 ?_
   refine zE 7 (hK338 _ _ ?_)
   refine W.cond_true true (by kernel_rfl) rfl ?_
   refine W.sr fun K344 hK344 => ?_
   refine zE 1 (hK344 _ _ ?_)
   refine W.ret (ret_seq ?_)
   obtain rfl := some_inj hm
   have hs345 := St.f2 hs341
   have hs346 := St.tk1 hs345
   refine ret_of (zi 1) (by kernel_rfl) ⟨_, ⟨rfl, rfl⟩, hs346⟩
  obtain ⟨h343p, hm⟩ := iN hm h343
  refine zS 27 h343 ?_
  refine zS 26 h343 ?_
  refine zR 1 ?_
  refine zL ⟨b7, 1, none⟩ (zi xi_) (hs341.cellAt 0 rfl rfl) ?_
  refine zR 1 ?_
  refine zL ⟨b4, 1, none⟩ (zi gi) (hs341.cellAt 1 rfl rfl) ?_
  refine zE 3 (hK338 _ _ ?_)
  refine W.cond (decide (xi_ ≥ gi)) (by kernel_rfl) (fun h347 => ?_) (fun h347 => ?_)
  ·
   obtain ⟨h347p, hm⟩ := iY hm h347
   refine W.sr fun K348 hK348 => ?_
   refine zE 1 (hK348 _ _ ?_)
   refine W.ret (ret_seq ?_)
   obtain rfl := some_inj hm
   have hs349 := St.f2 hs341
   have hs350 := St.tk1 hs349
   refine ret_of (zi 1) (by kernel_rfl) ⟨_, ⟨rfl, rfl⟩, hs350⟩
  obtain ⟨h347p, hm⟩ := iN hm h347
  refine W.skip ?_
  have hs351 := St.f1 hs341
  have hs352 := St.f2 hs351
  exact ⟨slots_intro _ (by kernel_rfl), hs352, hm⟩
 obtain ⟨h342p, hm⟩ := iN hm h342
 refine zS 23 h342 ?_
 refine zS 22 h342 ?_
 refine zE 11 (hK338 _ _ ?_)
 refine W.cond_false false (by kernel_rfl) rfl ?_
 refine W.skip ?_
 have hs353 := St.f1 hs341
 have hs354 := St.f2 hs353
 exact ⟨slots_intro _ (by kernel_rfl), hs354, hm⟩
end Go.Proofs.YtmmclabkkigiaaaGreat

namespace Go.Proofs.YtmmclabkkigiaaaGreat
open Go Go.RowKit
section
variable {gw gi gb n k : Int} {img : List Int} {l : List (Int × Int)}
theorem VI.vwrites (at_ : Int) : ∀ (xs : List Int) (i : Int) (l : List (Int × Int)), VI img l → (∀ x ∈ xs, U64 x) → VI img (vwrites img at_ l i xs).2
  | [], _, _, h, _ => h
  | x :: xs, i, l, h, hx => by
    unfold Go.Proofs.YtmmclabkkigiaaaGreat.vwrites
    have h1 := h.vwrite (a := at_ + i) (hx x (by simp))
    split
    · exact VI.vwrites at_ xs (i + 1) _ h1 fun y hy => hx y (by simp [hy])
    · exact h1
theorem iget_not (h : ¬ May gw gi gb) : (igetM img l gw gi gb n).2 = 1 := by
  have : placeOf 8 gw gi gb n = -1 := by
    rcases place8_cases gw gi gb n with ⟨e, _⟩ | ⟨hM, _⟩
    · exact e
    · exact absurd hM h
  have hf : ifind img.length gw gi gb n = (0, 1) := by
    unfold ifind
    rw [this, if_pos (.inl (by decide))]
  unfold igetM
  rw [hf]
  rfl
theorem vwrites_fr (at_ : Int) : ∀ (xs : List Int) (i : Int) (l : List (Int × Int)) (z : Int), z < at_ + i → vget img (vwrites img at_ l i xs).2 z = vget img l z
  | [], _, _, _, _ => rfl
  | x :: xs, i, l, z, h => by
    unfold vwrites
    split
    · rw [vwrites_fr at_ xs (i + 1) _ z (by omega)]
      exact vget_vwrite (by omega)
    · exact vget_vwrite (by omega)
theorem vwrites_len1 (at_ : Int) : ∀ (xs : List Int) (i : Int) (l : List (Int × Int)), (vwrites img at_ l i xs).2.length ≤ l.length + xs.length
  | [], _, _ => Nat.le_refl _
  | x :: xs, i, l => by
    have h1 := vwrite_len1 (img := img) (l := l) (at_ + i) x
    unfold vwrites
    split
    · have := vwrites_len1 at_ xs (i + 1) (vwrite img l (at_ + i) x).2
      simp only [List.length_cons]
      omega
    · simp only [List.length_cons]
      omega
theorem radd_go (hv : VI img l) (hl : img.length ≤ 6232) (h0 : (igetM img l gw gi gb n).2 = 0) {tx : ByteArray} (hm : mayB tx = true) {xi : Int} (hxi : 1 ≤ xi ∧ xi < gi) {b : Nat} (hb : b < 12) (he : ebegin_M tx = some (b : Int)) : ∀ (t k N : Nat), k + t = 12 → t < N →
    ∃ x : Int × List (Int × Int), iter (fun k_ s_ => rAdd15_B0 img l gw gi gb n tx xi k_ s_) N (k : Int) = some x ∧ VI img x.2 ∧ Fr gw gi gb n img l x.2 ∧ x.2.length ≤ l.length + 40 := by
  have g := gt_of hv hl h0
  have hg := may_out g.may
  intro t
  induction t with
  | zero =>
    intro k N hk hN
    obtain ⟨m, rfl⟩ : ∃ m, N = m + 1 := ⟨N - 1, by omega⟩
    refine ⟨(16, l), ?_, hv, Fr.refl _, by simp only; omega⟩
    show rAdd15_B0 img l gw gi gb n tx xi (iter _ m) (k : Int) = _
    unfold rAdd15_B0
    rw [if_neg (by omega)]
  | succ t ih =>
    intro k N hk hN
    obtain ⟨m, rfl⟩ : ∃ m, N = m + 1 := ⟨N - 1, by omega⟩
    obtain ⟨y, i2, i3⟩ := ih (k + 1) m (by omega) (by omega)
    obtain ⟨p, hp⟩ : ∃ p, p = (b + k) % 12 := ⟨_, rfl⟩
    have hp12 : p < 12 := by omega
    have et : (((b : Nat) : Int) + (k : Int)).tmod 12 = (p : Int) := by rw [Int.tmod_eq_emod_of_nonneg (by omega)]; omega
    obtain ⟨a, e1, e2, _⟩ := at_eq (gw := gw) (gi := gi) (gb := gb) (n := n) (k := (p : Int)) hv hl (by omega)
    obtain ⟨c2, hc2⟩ : ∃ c2, c2 = iter (fun k_ s_ => rAdd15_B0 img l gw gi gb n tx xi k_ s_) m := ⟨_, rfl⟩
    rw [← hc2] at i2
    have Rr : iter (fun k_ s_ => rAdd15_B0 img l gw gi gb n tx xi k_ s_) (m + 1) (k : Int) = rAdd15_B0 img l gw gi gb n tx xi c2 (k : Int) := by rw [hc2]; rfl
    rw [Rr]
    unfold rAdd15_B0
    rw [if_pos (show (k : Int) < 12 by omega), rbegin15_eq, he]
    have q0 : -9223372036854775808 ≤ (b : Int) + (k : Int) ∧ (b : Int) + (k : Int) ≤ 9223372036854775807 := by omega
    simp only [need, if_pos q0, Option.bind, et, e2]
    by_cases h1 : a.1 = 0
    · have hP : May gw gi gb ∧ wordsOf gw gi gb ≤ (img.length : Int) := ⟨g.may, g.fit⟩
      have hle : (img.length : Int) ≤ 1000000000000 := by omega
      have f2 := rfree_ok (gi := gi) (gb := gb) hv.1 (show 0 ≤ 264 + 208 * gw ∧ 264 + 208 * gw ≤ 1000000000000 by omega) (show 0 ≤ 272 + 208 * gw ∧ 272 + 208 * gw ≤ 1000000000000 by omega) (by omega) (by omega)
      obtain ⟨nd, n2⟩ := rneed_ok (gw := gw) (gi := gi) (gb := gb) (n := n) (k := (p : Int)) hv hl (by omega)
      obtain ⟨r, t2, t3, f1, f3, f4⟩ := rtake_ok (gw := gw) (gi := gi) (gb := gb) (n := n) (k := (p : Int)) hv hl (by omega)
      simp only [if_pos h1, if_pos hle, if_pos hP, place6 g.may, place7 g.may, f2, n2]
      by_cases hfr : (freeF img l gi gb (264 + 208 * gw) (272 + 208 * gw)).2 < nd
      · simp only [if_pos hfr]
        exact ⟨_, rfl, hv, Fr.refl _, by simp only; omega⟩
      · simp only [if_neg hfr, t2]
        by_cases hr0 : r.2.1 = 0
        · have hms := mayB_iff.1 hm
          have hpl := packF_len tx
          have q1 : 0 ≤ xi ∧ xi ≤ 18446744073709551615 := by omega
          have q2 : 0 ≤ (tx.size : Int) ∧ (tx.size : Int) ≤ 18446744073709551615 := by omega
          have q3 : (packF tx).length ≤ 1000000 := by omega
          have hlen2 : ([xi, (tx.size : Int)] ++ packF tx).length = 2 + (tx.size + 7) / 8 := by rw [List.length_append, hpl]; rfl
          have q4 : ([xi, (tx.size : Int)] ++ packF tx).length ≤ 1000000 := by omega
          have hp9 := place9 gw gi gb r.1
          have q5 : -1 ≤ placeOf 9 gw gi gb r.1 ∧ placeOf 9 gw gi gb r.1 ≤ 1000000 := by omega
          simp only [if_pos hr0, if_pos q1, if_pos q2, rpack_eq (show tx.size ≤ 1000000 by omega), if_pos q3, if_pos q4, if_pos q5]
          have hb9 := place9_at (gw := gw) (gi := gi) (gb := gb) (b := r.1) g.may (f4 hr0 h0)
          have hrr := f4 hr0 h0
          have hwl := vwrites_len1 (img := img) (placeOf 9 gw gi gb r.1) ([xi, (tx.size : Int)] ++ packF tx) 0 r.2.2
          refine ⟨_, rfl, VI.vwrites _ _ _ _ t3 (fun x hx => ?_), f1.trans fun z a b => .inl (vwrites_fr _ _ _ _ z (by omega)), by simp only; omega⟩
          rcases List.mem_append.1 hx with q | q
          · rcases List.mem_cons.1 q with rfl | q
            · unfold U64; omega
            · rw [List.mem_singleton] at q
              rw [q]; unfold U64; omega
          · exact packF_u64 tx x q
        · simp only [if_neg hr0]
          exact ⟨_, rfl, t3, f1, by simp only; omega⟩
    · have q6 : -9223372036854775808 ≤ (k : Int) + 1 ∧ (k : Int) + 1 ≤ 9223372036854775807 := by omega
      simp only [if_neg h1, if_pos q6]
      exact ⟨y, i2, i3⟩
theorem radd_ok (hv : VI img l) (hl : img.length ≤ 6232) (tx : ByteArray) (xi : Int) : ∃ r : Int × List (Int × Int), rAdd15_M img l gw gi gb n tx xi = some r ∧ VI img r.2 ∧ Fr gw gi gb n img l r.2 ∧ r.2.length ≤ l.length + 40 ∧ (r.1 = 0 → (igetM img l gw gi gb n).2 = 0 ∧ (igetM img l gw gi gb n).1.k = 2) := by
  obtain ⟨x, e1, e2, e3, e4⟩ := find_eq (gw := gw) (gi := gi) (gb := gb) (n := n) hv hl tx
  have J : (¬ (xi < 1 ∨ xi ≥ gi) ∨ (igetM img l gw gi gb n).2 ≠ 0) → ∃ r : Int × List (Int × Int), rAdd15_J1 img l gw gi gb n tx xi = some r ∧ VI img r.2 ∧ Fr gw gi gb n img l r.2 ∧ r.2.length ≤ l.length + 40 ∧ (r.1 = 0 → (igetM img l gw gi gb n).2 = 0 ∧ (igetM img l gw gi gb n).1.k = 2) := by
    intro hx
    unfold rAdd15_J1
    rw [e2]
    simp only [Option.bind]
    by_cases h0 : x.2.2.2 = 0
    · rw [if_pos h0]
      exact ⟨_, rfl, hv, Fr.refl _, by simp only; omega, fun q => by cases q⟩
    · rw [if_neg h0]
      by_cases h6 : x.2.2.2 = 6
      · rw [if_pos h6]
        obtain ⟨q1, q2⟩ := e4 h6
        have hx2 : ¬ (xi < 1 ∨ xi ≥ gi) := hx.elim id fun q => absurd q1 q
        have hm : mayB tx = true := by
          rcases e3 with ⟨q, _⟩ | ⟨_, q, _⟩ | ⟨_, _, _, _, q⟩
          · exact absurd q1 q
          · exact absurd q2 q
          · exact (q h6).1
        obtain ⟨b, hb, he⟩ := ebegin_range tx
        obtain ⟨y, y1, y2, y3, y4⟩ := radd_go hv hl q1 hm (xi := xi) (by omega) hb he 12 0 FUEL rfl (fuel_lt (by omega))
        exact ⟨y, y1, y2, y3, y4, fun _ => ⟨q1, q2⟩⟩
      · rw [if_neg h6]
        exact ⟨_, rfl, hv, Fr.refl _, by simp only; omega, fun q => absurd q h0⟩
  unfold rAdd15_M
  by_cases hM : May gw gi gb
  · rw [if_pos hM]
    by_cases h1 : xi < 1
    · rw [if_pos h1]
      exact ⟨_, rfl, hv, Fr.refl _, by simp only; omega, fun q => by cases q⟩
    · rw [if_neg h1]
      by_cases h2 : xi ≥ gi
      · rw [if_pos h2]
        exact ⟨_, rfl, hv, Fr.refl _, by simp only; omega, fun q => by cases q⟩
      · rw [if_neg h2]
        exact J (.inl (by omega))
  · rw [if_neg hM]
    exact J (.inr (by rw [iget_not hM]; decide))
end
end Go.Proofs.YtmmclabkkigiaaaGreat

namespace Go.Proofs.YtmmclabkkigiaaaGreat
open Go Go.Shelf
def strRen156 : Ren :=
  {
    f := fun x =>
      match x with
      | 156 => 40
      | 165 => 76
      | 166 => 77
      | 169 => 78
      | 240 => 101
      | 241 => 102
      | 276 => 120
      | 277 => 121
      | n => n,
    t := fun x =>
      match x with
      | 31 => 55
      | 9 => 9
      | 3 => 3
      | 4 => 4
      | 0 => 0
      | 20 => 20
      | 72 => 151
      | 76 => 155
      | 70 => 148
      | 37 => 149
      | 75 => 154
      | 127 => 183
      | 164 => 208
      | 5 => 5
      | 80 => 157
      | n => n,
    g := fun x =>
      x }
theorem strLays156 : Lays.n156 Tryz.prog strRen156 :=
  { mixed := rfl, f156 := Tryz.func40.trans (congrArg some (by kernel_rfl)), f165 := Tryz.func76.trans (congrArg some (by kernel_rfl)), f166 := Tryz.func77.trans (congrArg some (by kernel_rfl)), f169 := Tryz.func78.trans (congrArg some (by kernel_rfl)), f240 := Tryz.func101.trans (congrArg some (by kernel_rfl)), f241 := Tryz.func102.trans (congrArg some (by kernel_rfl)), f276 := Tryz.func120.trans (congrArg some (by kernel_rfl)), f277 := Tryz.func121.trans (congrArg some (by kernel_rfl)), t0 := Tryz.underlying0, a0 := Tryz.isAgg0, z0 := Tryz.sizeOf0, v0 := Tryz.zeroValue0, t3 := Tryz.underlying3, a3 := Tryz.isAgg3, z3 := Tryz.sizeOf3, v3 := Tryz.zeroValue3, t4 := Tryz.underlying4, a4 := Tryz.isAgg4, z4 := Tryz.sizeOf4, v4 := Tryz.zeroValue4, t9 := Tryz.underlying9, a9 := Tryz.isAgg9, z9 := Tryz.sizeOf9, v9 := Tryz.zeroValue9, t20 := Tryz.underlying20, a20 := Tryz.isAgg20, z20 := Tryz.sizeOf20, v20 := Tryz.zeroValue20, t31 := Tryz.underlying55, a31 := Tryz.isAgg55, z31 := Tryz.sizeOf55, v31 := Tryz.zeroValue55, t37 := Tryz.underlying149, a37 := Tryz.isAgg149, z37 := Tryz.sizeOf149, v37 := Tryz.zeroValue149, t70 := Tryz.underlying148, a70 := Tryz.isAgg148, z70 := Tryz.sizeOf148, v70 := Tryz.zeroValue148, t72 := Tryz.underlying151, a72 := Tryz.isAgg151, z72 := Tryz.sizeOf151, v72 := Tryz.zeroValue151, t75 := Tryz.underlying154, a75 := Tryz.isAgg154, z75 := Tryz.sizeOf154, v75 := Tryz.zeroValue154, t76 := Tryz.underlying155, a76 := Tryz.isAgg155, z76 := Tryz.sizeOf155, v76 := Tryz.zeroValue155, t127 := Tryz.underlying183, a127 := Tryz.isAgg183, z127 := Tryz.sizeOf183, v127 := Tryz.zeroValue183, t164 := Tryz.underlying208, a164 := Tryz.isAgg208, z164 := Tryz.sizeOf208, v164 := Tryz.zeroValue208 }
end Go.Proofs.YtmmclabkkigiaaaGreat

namespace Go.Proofs.YtmmclabkkigiaaaGreat
open Go Go.RowKit
section
variable {P : Program} {ops : Array Oper} {i : Nat} {s : Fs} {w : World}
theorem bounds_of {isS : Bool} {len cap k m : Nat} {lo hi : Option Value} (hlo : (lo = none ∧ k = 0) ∨ ∃ q, lo = some (.int q (k : Int))) (hhi : (hi = none ∧ m = len) ∨ ∃ q, hi = some (.int q (m : Int))) (h1 : k ≤ m) (h2 : m ≤ cap) :
    (Instr.sliceBounds isS len cap lo hi none).run P w = .ok (k, m, cap) w := by
  have hb : ∀ (q : IntKind) (z y : Nat) (code : BoundsCode), z ≤ y → (Instr.sliceBound (.int q (z : Int)) y code).run P w = .ok z w := by
    intro q z y code hzy
    have : (0 : Int) ≤ (z : Int) ∧ (z : Int) ≤ (y : Int) := ⟨by omega, by omega⟩
    simp only [Instr.sliceBound, asIntOf, Sem.run_bind, Sem.run_pure, Result.andThen_ok, if_pos this, Int.toNat_natCast]
  unfold Instr.sliceBounds
  rcases hlo with ⟨rfl, rfl⟩ | ⟨q, rfl⟩ <;> rcases hhi with ⟨rfl, rfl⟩ | ⟨q2, rfl⟩ <;> simp only [Sem.run_bind, Sem.run_pure, Result.andThen_ok, hb _ _ _ _ h1, hb _ _ _ _ h2]
def valInt : Option Value → Option (Option Int)
  | none => some none
  | some (.int _ k) => some (some k)
  | _ => none
theorem valInt_none {v : Option Value} (h : valInt v = some none) : v = none := by
  cases v with
  | none => rfl
  | some v => cases v <;> simp [valInt] at h
theorem valInt_some {v : Option Value} {z : Int} (h : valInt v = some (some z)) : ∃ q, v = some (.int q z) := by
  cases v with
  | none => simp [valInt] at h
  | some v => cases v <;> simp [valInt] at h; subst h; exact ⟨_, rfl⟩
def strSliceQ (P : Program) (ops : Array Oper) (i : Nat) (s : Fs) : Option (ByteArray × Option Int × Option Int) :=
  match opQ ops i s with
  | some o => match o.op with
    | .slice t x lo hi none => match P.underlying t, evS s x, valInt (lo.map (evS s)), valInt (hi.map (evS s)) with
      | some .string, .string b, some l, some h => some (b, l, h)
      | _, _, _, _ => none
    | _ => none
  | none => none
theorem runs_strSlice {b : ByteArray} {lo hi : Option Int} (k m : Nat) (hlo : lo = some (k : Int) ∨ lo = none ∧ k = 0) (hhi : hi = some (m : Int) ∨ hi = none ∧ m = b.size) (h1 : k ≤ m) (h2 : m ≤ b.size) (hq : strSliceQ P ops i s = some (b, lo, hi)) :
    RunsTo P ops i s w (.string (b.extract k m)) w := by
  unfold strSliceQ at hq
  split at hq
  · rename_i o ho
    split at hq
    · rename_i t x lo' hi' hop
      split at hq
      · rename_i b' l h hu hx hl hh
        simp only [Option.some.injEq, Prod.mk.injEq] at hq
        obtain ⟨rfl, rfl, rfl⟩ := hq
        refine ⟨_, ho, ?_⟩
        have hun := run_underlying (P := P) hu w
        have hlo2 : (lo'.map (evS s) = none ∧ k = 0) ∨ ∃ q, lo'.map (evS s) = some (.int q (k : Int)) := by
          rcases hlo with rfl | ⟨rfl, hk⟩
          · exact .inr (valInt_some hl)
          · exact .inl ⟨valInt_none hl, hk⟩
        have hhi2 : (hi'.map (evS s) = none ∧ m = b'.size) ∨ ∃ q, hi'.map (evS s) = some (.int q (m : Int)) := by
          rcases hhi with rfl | ⟨rfl, hk⟩
          · exact .inr (valInt_some hh)
          · exact .inl ⟨valInt_none hh, hk⟩
        have hb := bounds_of (P := P) (w := w) (isS := false) hlo2 hhi2 h1 h2
        have hxx : (Instr.sliceAt t (evS s x) (lo'.map (evS s)) (hi'.map (evS s)) none).run P w = .ok (.string (b'.extract k m)) w := by
          unfold Instr.sliceAt
          simp only [Sem.run_bind, hun, Result.andThen_ok, hx]
          unfold Instr.slice
          simp only [Sem.run_bind, hun, Result.andThen_ok, hb, Sem.run_pure, Option.isSome_none, Bool.false_eq_true, if_false]
        simp only [execOp, hop, Option.map_none, Sem.run_bind, hxx, Result.andThen_ok, Sem.run_pure]
      · cases hq
    · cases hq
  · cases hq
def strAddQ (P : Program) (ops : Array Oper) (i : Nat) (s : Fs) : Option (ByteArray × ByteArray) :=
  match opQ ops i s with
  | some o => match o.op with
    | .binOp .add t x y u => match evS s x, evS s y with
      | .string a, .string b => some (a, b)
      | _, _ => none
    | _ => none
  | none => none
theorem runs_strAdd {a b : ByteArray} (h : a.size + b.size ≤ 9223372036854775807) (hq : strAddQ P ops i s = some (a, b)) : RunsTo P ops i s w (.string (a ++ b)) w := by
  unfold strAddQ at hq
  split at hq
  · rename_i o ho
    split at hq
    · rename_i t x' y' yt hop
      refine ⟨o, ho, ?_⟩
      split at hq
      · rename_i a1 b1 hx hy
        cases hq
        have hg : (eqGuard .add t x' y' (.string a) (.string b)).run P w = .ok () w := by
          unfold eqGuard
          rfl
        simp only [execOp, hop, hx, hy, Sem.run_bind, hg, Result.andThen_ok, binOp, run_string_add_sum w a b h, Sem.run_pure]
      · cases hq
    · cases hq
  · cases hq
end
end Go.Proofs.YtmmclabkkigiaaaGreat

namespace Go.Proofs.YtmmclabkkigiaaaGreat
open Go Go.RowKit
def kStr : Kind ByteArray := ⟨9, 1, fun x => [.string x], by decide, fun _ => rfl, fun _ => rfl⟩
section
variable {P : Program} {ops : Array Oper} {i : Nat} {s : Fs} {w : World}
end
end Go.Proofs.YtmmclabkkigiaaaGreat

namespace Go.Proofs.YtmmclabkkigiaaaGreat
open Go Go.RowKit Go.Shelf
def idx47 (s : ByteArray) : Int := Lib.indexByte s.data.toList 47
theorem idxb_spec {s : ByteArray} (B : Nat) (w : World) : Spec Tryz.prog 124 #[.string s, .int .u8 47] B w [] (fun v H' => v = .int .i64 (idx47 s) ∧ H' = []) :=
  Spec.ofBelow ((Any.stringslite_IndexByte { strLays150 with } s 47 w).mono fun e w' ⟨h1, h2⟩ => ⟨h1, h2 ▸ Below.refl _ _⟩)
def joinB (xs : List ByteArray) : ByteArray := ⟨(Lib.join (xs.map (·.data.toList)) [47]).toArray⟩
theorem bextra : Builder.Extra Tryz.prog strRen156 where
  sizeBuilder := by kernel_rfl
  liesBuilder := by kernel_rfl
  t5 := Tryz.underlying5
  a5 := Tryz.isAgg5
  z5 := Tryz.sizeOf5
  v5 := Tryz.zeroValue5
  infoByte := by kernel_rfl
  cellsByte := by kernel_rfl
  sizeByte := by kernel_rfl
  neB5 := by decide
theorem kstr_get (xs : List ByteArray) (j : Nat) : (kStr.cells xs)[j]? = (xs[j]?).map Value.string := by
  have : kStr.cells xs = xs.map Value.string := by
    unfold Kind.cells kStr
    induction xs with
    | nil => rfl
    | cons x xs ih => simp only [List.flatMap_cons, List.map_cons] at ih ⊢; rw [ih]; rfl
  rw [this, List.getElem?_map]
theorem join_spec {a : Option Addr} {c : Nat} {xs : List ByteArray} (B : Nat) (w : World) (hx : CellsAt a (kStr.cells xs) w) (hc : xs.length ≤ c) (hn : xs.length ≤ 1000000) (hl : (joinB xs).size ≤ 1000000000) :
    Spec Tryz.prog 40 #[.slice a xs.length c, .string (ByteArray.mk #[47])] B w [] (fun v H' => v = .string (joinB xs) ∧ H' = []) := by
  refine Spec.ofBelow ?_
  by_cases h0 : xs = []
  · subst h0
    exact (Any.strings_Join_none strLays156 bextra a c (ByteArray.mk #[47]) w).mono fun e w' ⟨h1, h2⟩ => ⟨h1, h2 ▸ Below.refl _ _⟩
  · have hlt : 0 < xs.length := List.length_pos_iff.2 h0
    cases a with
    | none =>
      have h1 : kStr.cells xs = [] := hx
      have h2 := kstr_get xs 0
      rw [h1, List.getElem?_eq_getElem hlt] at h2
      cases h2
    | some ad =>
      have each : ∀ (j : Nat) x, xs[j]? = some x → w.cell? (ad.add j) = some (.string x) := fun j x hj => hx j _ (by rw [kstr_get, hj]; rfl)
      have hc0 := each 0 xs[0] (List.getElem?_eq_getElem hlt)
      have e0 : ad.add 0 = ad := rfl
      rw [e0] at hc0
      have hsp := World.cell?_spot hc0
      obtain ⟨bk, o, sp⟩ := ad
      simp only at hsp
      subst hsp
      have hb : bk < w.heap.size := by
        unfold World.cell? at hc0
        split at hc0
        · rename_i h; exact (Array.getElem?_eq_some_iff.1 h).1
        · cases hc0
      refine Any.strings_Join strLays156 bextra bk o c xs (ByteArray.mk #[47]) w (fun j x hj => ?_) hb (by omega) hc ?_
      · have := each j x hj
        unfold Addr.add at this
        split at this
        · rename_i hj0; subst hj0; exact this
        · exact this
      · have : (joinB xs).size = (Lib.join (xs.map (·.data.toList)) [47]).length := by unfold joinB; simp [ByteArray.size]
        show (Lib.join (xs.map (·.data.toList)) [47]).length ≤ _
        omega
end Go.Proofs.YtmmclabkkigiaaaGreat

set_option maxRecDepth 20000
set_option maxHeartbeats 1000000
namespace Go.Proofs.YtmmclabkkigiaaaGreat
open Go Go.RowKit
def sindex_M (tx_ : ByteArray) : Option (Int) :=
 if ((ByteArray.mk #[47]).toList == tx_.toList) = true then (some 0) else (need ((0 : Int) ≤ 0 ∧ 0 < ((ByteArray.mk #[47]).size : Int)) <|
some (idx47 tx_))
theorem sindex_walk {tx_ : ByteArray}  {r : Int} (B : Nat) (w : World) (hm : sindex_M tx_ = some r) : Spec Tryz.prog 108 #[(.string tx_), (.string (ByteArray.mk #[47]))] B w [] (fun v H' => v = .int .i64 r ∧ H' = []) := by
 refine spec_Q Tryz.func108 rfl fun hs => ?_
 unfold sindex_M at hm
 refine W.sr fun K1 hK1 => ?_
 refine zE 1 (hK1 _ _ ?_)
 refine W.sr fun K2 hK2 => ?_
 refine zE 3 (hK2 _ _ ?_)
 refine W.seq fun K3 hK3 => ?_
 refine W.block ?_
 refine W.sr fun K4 hK4 => ?_
 refine zE 8 (hK4 _ _ ?_)
 refine W.cond ((ByteArray.mk #[47]).toList == tx_.toList) (by kernel_rfl) (fun h5 => ?_) (fun h5 => ?_)
 ·
  have h5p : ((ByteArray.mk #[47]).toList == tx_.toList) = true := h5
  replace hm := ite_yes hm h5p
  refine W.sr fun K6 hK6 => ?_
  refine zE 1 (hK6 _ _ ?_)
  refine W.ret (ret_block (ret_seq ?_))
  obtain rfl := some_inj hm
  refine ret_of (zi 0) (by kernel_rfl) ⟨_, ⟨rfl, rfl⟩, hs⟩
 have h5p : ¬ (((ByteArray.mk #[47]).toList == tx_.toList) = true) := ne_true_of_eq_false h5
 replace hm := ite_no hm h5p
 refine W.sr fun K7 hK7 => ?_
 refine zE 3 (hK7 _ _ ?_)
 refine W.cond_true true (by kernel_rfl) rfl ?_
 refine W.sr fun K8 hK8 => ?_
 refine zR 2 ?_
 obtain ⟨h9, hm⟩ := need_some hm
 refine ops_R (v := (.int .u8 (sbyte (ByteArray.mk #[47]) 0))) (runs_strIdx (b := (ByteArray.mk #[47])) (k := 0) h9 (by kernel_rfl)) ?_
 refine zC00 hs (idxb_spec (s := tx_) B _) fun w10 hs12 => ?_
 refine zE 1 (hK8 _ _ ?_)
 refine W.ret (ret_block (ret_seq ?_))
 obtain rfl := some_inj hm
 refine ret_of (zi (idx47 tx_)) (by kernel_rfl) ⟨_, ⟨rfl, rfl⟩, hs12⟩
end Go.Proofs.YtmmclabkkigiaaaGreat

set_option maxRecDepth 20000
set_option maxHeartbeats 1000000
namespace Go.Proofs.YtmmclabkkigiaaaGreat
open Go Go.RowKit
def slcut_M (tx_ : ByteArray) : Option (ByteArray × ByteArray × Bool) :=
 (sindex_M tx_).bind fun r4 =>
if r4 ≥ 0 then (need ((0 : Int) ≤ 0 ∧ (0 : Int) ≤ r4 ∧ r4 ≤ (tx_.size : Int)) <|
need (-9223372036854775808 ≤ (r4 + 1) ∧ (r4 + 1) ≤ 9223372036854775807) <|
need ((0 : Int) ≤ (r4 + 1) ∧ ((r4 + 1) : Int) ≤ (tx_.size : Int) ∧ (tx_.size : Int) ≤ (tx_.size : Int)) <|
some ((tx_.extract 0 r4.toNat), (tx_.extract ((r4 + 1).toNat) tx_.size), true)) else (some (tx_, ByteArray.empty, false))
theorem slcut_walk {tx_ : ByteArray}  {r : ByteArray × ByteArray × Bool} (B : Nat) (w : World) (hm : slcut_M tx_ = some r) : Spec Tryz.prog 93 #[(.string tx_), (.string (ByteArray.mk #[47]))] B w [] (fun v H' => v = (.tuple #[(.string r.1), (.string r.2.1), (.bool r.2.2)]) ∧ H' = []) := by
 refine spec_Q Tryz.func93 rfl fun hs => ?_
 unfold slcut_M at hm
 refine W.sr fun K1 hK1 => ?_
 refine zE 3 (hK1 _ _ ?_)
 refine W.seq fun K2 hK2 => ?_
 refine W.sr fun K3 hK3 => ?_
 refine zR 2 ?_
 obtain ⟨r4, h5, hm⟩ := bind_some hm
 refine zC00 hs (sindex_walk (tx_ := tx_) (hm := h5) B _) fun w6 hs8 => ?_
 refine zE 1 (hK3 _ _ ?_)
 refine W.sr fun K9 hK9 => ?_
 refine zE 2 (hK9 _ _ ?_)
 refine W.cond (decide (r4 ≥ 0)) (by kernel_rfl) (fun h10 => ?_) (fun h10 => ?_)
 ·
  obtain ⟨h10p, hm⟩ := iY hm h10
  refine W.seq fun K11 hK11 => ?_
  have hs12 := hs8.drew
  refine W.regionD [(0, 0), (0, 0), (3, 3), (0, 0), (0, 0), (0, 0), (32, 32), (80, 80), (136, 136), (7, 4), (1023, 256), (2047, 0)] (fun w_ => St B w [] w_ []) (by kernel_rfl) hs12 ?_
  refine zA (.string tx_) 0 hs12 ?_
  refine zA (zi r4) 1 hs12 ?_
  obtain ⟨h13, hm⟩ := need_some hm
  refine any_R (v := (.string (tx_.extract 0 r4.toNat))) 2 (by kernel_rfl) (fun _ hS_ => runs_strSlice (b := tx_) (lo := none) (hi := (some r4)) 0 r4.toNat (.inr ⟨rfl, rfl⟩) (.inl (congrArg some (nat_of (Int.le_trans h13.1 h13.2.1)))) (by omega) (by omega) (by kernel_rfl)) hs12 ?_
  refine zA (.string tx_) 3 hs12 ?_
  refine zA (zi r4) 4 hs12 ?_
  refine zA (.string (ByteArray.mk #[47])) 5 hs12 ?_
  refine zA (zi 1) 6 hs12 ?_
  obtain ⟨h14, hm⟩ := need_some hm
  refine any_val (v := .int .i64 (IntKind.i64.wrap (r4 + 1))) (v' := .int .i64 (r4 + 1)) 7 (by kernel_rfl) (fun _ => by kernel_rfl) (congrArg (Value.int .i64) (wrap_i64 h14.1 h14.2)) hs12 ?_
  obtain ⟨h15, hm⟩ := need_some hm
  refine any_R (v := (.string (tx_.extract ((r4 + 1).toNat) tx_.size))) 8 (by kernel_rfl) (fun _ hS_ => runs_strSlice (b := tx_) (lo := (some (r4 + 1))) (hi := none) ((r4 + 1).toNat) tx_.size (.inl (congrArg some (nat_of h15.1))) (.inr ⟨rfl, rfl⟩) (by omega) (by omega) (by kernel_rfl)) hs12 ?_
  refine zA (.string (tx_.extract 0 r4.toNat)) 9 hs12 ?_
  refine zA (.string (tx_.extract ((r4 + 1).toNat) tx_.size)) 10 hs12 ?_
  refine zA (.bool true) 11 hs12 ?_
  refine any_done (by kernel_rfl) ?_
  refine hK11 _ _ ?_
  refine W.ret (ret_seq ?_)
  obtain rfl := some_inj hm
  refine ret_of (.tuple #[(.string (tx_.extract 0 r4.toNat)), (.string (tx_.extract ((r4 + 1).toNat) tx_.size)), (.bool true)]) (by kernel_rfl) ⟨_, ⟨rfl, rfl⟩, hs12⟩
 obtain ⟨h10p, hm⟩ := iN hm h10
 refine W.skip ?_
 refine hK2 _ _ ?_
 refine W.sr fun K16 hK16 => ?_
 refine zE 4 (hK16 _ _ ?_)
 refine W.ret ?_
 obtain rfl := some_inj hm
 refine ret_of (.tuple #[(.string tx_), (.string ByteArray.empty), (.bool false)]) (by kernel_rfl) ⟨_, ⟨rfl, rfl⟩, hs8⟩
end Go.Proofs.YtmmclabkkigiaaaGreat

set_option maxRecDepth 20000
set_option maxHeartbeats 1000000
namespace Go.Proofs.YtmmclabkkigiaaaGreat
open Go Go.RowKit
def scut_M (tx_ : ByteArray) : Option (ByteArray × ByteArray × Bool) :=
 (slcut_M tx_).bind fun r3 =>
some (r3.1, r3.2.1, r3.2.2)
theorem scut_walk {tx_ : ByteArray}  {r : ByteArray × ByteArray × Bool} (B : Nat) (w : World) (hm : scut_M tx_ = some r) : Spec Tryz.prog 70 #[(.string tx_), (.string (ByteArray.mk #[47]))] B w [] (fun v H' => v = (.tuple #[(.string r.1), (.string r.2.1), (.bool r.2.2)]) ∧ H' = []) := by
 refine spec_Q Tryz.func70 rfl fun hs => ?_
 unfold scut_M at hm
 refine W.sr fun K1 hK1 => ?_
 refine zE 3 (hK1 _ _ ?_)
 refine W.sr fun K2 hK2 => ?_
 refine zR 2 ?_
 obtain ⟨r3, h4, hm⟩ := bind_some hm
 refine zC00 hs (slcut_walk (tx_ := tx_) (hm := h4) B _) fun w5 hs7 => ?_
 refine zE 6 (hK2 _ _ ?_)
 refine W.ret ?_
 obtain rfl := some_inj hm
 refine ret_of (.tuple #[(.string r3.1), (.string r3.2.1), (.bool r3.2.2)]) (by kernel_rfl) ⟨_, ⟨rfl, rfl⟩, hs7⟩
end Go.Proofs.YtmmclabkkigiaaaGreat

namespace Go.Proofs.YtmmclabkkigiaaaGreat
open Go Go.RowKit
theorem idx_lt : ∀ l : List UInt8, -1 ≤ Lib.indexByte l 47 ∧ Lib.indexByte l 47 < (l.length : Int)
  | [] => by simp [Lib.indexByte]
  | b :: l => by
    have ih := idx_lt l
    unfold Lib.indexByte
    simp only [List.length_cons]
    split
    · omega
    · split <;> omega
theorem idx47_range (s : ByteArray) : -1 ≤ idx47 s ∧ idx47 s < (s.size : Int) := by
  have := idx_lt s.data.toList
  have e : s.data.toList.length = s.size := by rw [Array.length_toList]; rfl
  unfold idx47
  omega
theorem beq_toList {a b : ByteArray} : (a.toList == b.toList) = true ↔ a = b := by
  rw [ByteArray.toList_eq, ByteArray.toList_eq, beq_iff_eq]
  constructor
  · intro h
    cases a; cases b
    congr 1
    exact Array.toList_inj.1 h
  · rintro rfl; rfl
def cut1 (s : ByteArray) : ByteArray × ByteArray × Bool :=
  if idx47 s ≥ 0 then (s.extract 0 (idx47 s).toNat, s.extract (idx47 s + 1).toNat s.size, true) else (s, ByteArray.empty, false)
theorem idx47_one : idx47 (ByteArray.mk #[47]) = 0 := by decide
theorem sindex_eq (s : ByteArray) : sindex_M s = some (idx47 s) := by
  unfold sindex_M
  by_cases h : (ByteArray.mk #[47]) = s
  · subst h
    rw [if_pos (beq_toList.2 rfl), idx47_one]
  · rw [if_neg fun q => h (beq_toList.1 q)]
    exact need_of (by decide) rfl
theorem cut_eq {s : ByteArray} (hs : s.size ≤ 1000000) : scut_M s = some (cut1 s) := by
  have hr := idx47_range s
  unfold scut_M slcut_M
  refine bind_of (y := cut1 s) (bind_of (sindex_eq s) ?_) rfl
  unfold cut1
  by_cases h : idx47 s ≥ 0
  · rw [if_pos h, if_pos h]
    exact need_of (by omega) (need_of (by omega) (need_of (by omega) rfl))
  · rw [if_neg h, if_neg h]
theorem cut_spec {s : ByteArray} (hs : s.size ≤ 1000000) (B : Nat) (w : World) : Spec Tryz.prog 70 #[.string s, .string (ByteArray.mk #[47])] B w [] (fun v H' => v = .tuple #[.string (cut1 s).1, .string (cut1 s).2.1, .bool (cut1 s).2.2] ∧ H' = []) :=
  scut_walk B w (cut_eq hs)
def restB (s : ByteArray) : Nat → ByteArray
  | 0 => s
  | k + 1 => (cut1 (restB s k)).2.1
def moreB (s : ByteArray) : Nat → Bool
  | 0 => true
  | k + 1 => (cut1 (restB s k)).2.2
def partAt (s : ByteArray) (k : Nat) : ByteArray := (cut1 (restB s k)).1
theorem cut_size (s : ByteArray) : (cut1 s).2.1.size ≤ s.size ∧ ((cut1 s).2.2 = true → (cut1 s).2.1.size < s.size) := by
  have hr := idx47_range s
  unfold cut1
  split
  · simp only [ByteArray.size_extract]
    omega
  · simp
theorem restB_size (s : ByteArray) : ∀ k, (restB s k).size ≤ s.size
  | 0 => Nat.le_refl _
  | k + 1 => Nat.le_trans (cut_size (restB s k)).1 (restB_size s k)
def nFrom (s : ByteArray) : Nat → Nat → Nat
  | 0, k => k
  | t + 1, k => if moreB s k = true then nFrom s t (k + 1) else k
def nParts (s : ByteArray) : Nat := nFrom s (s.size + 2) 0
theorem nFrom_le (s : ByteArray) : ∀ t k, k ≤ nFrom s t k ∧ nFrom s t k ≤ k + t
  | 0, k => ⟨Nat.le_refl _, Nat.le_refl _⟩
  | t + 1, k => by
    have := nFrom_le s t (k + 1)
    unfold nFrom
    split <;> omega
theorem nFrom_lt (s : ByteArray) : ∀ t k j, k ≤ j → j < nFrom s t k → moreB s j = true
  | 0, k, j, h1, h2 => by unfold nFrom at h2; omega
  | t + 1, k, j, h1, h2 => by
    unfold nFrom at h2
    split at h2
    · rename_i hk
      by_cases e : j = k
      · rw [e]; exact hk
      · exact nFrom_lt s t (k + 1) j (by omega) h2
    · omega
theorem nFrom_end (s : ByteArray) : ∀ t k, nFrom s t k < k + t → moreB s (nFrom s t k) = false
  | 0, k, h => by unfold nFrom at h; omega
  | t + 1, k, h => by
    unfold nFrom at h ⊢
    split at h
    · rename_i hk
      rw [if_pos hk]
      exact nFrom_end s t (k + 1) (by omega)
    · rename_i hk
      rw [if_neg hk]
      cases hm : moreB s k with
      | true => exact absurd hm hk
      | false => rfl
theorem more_size (s : ByteArray) : ∀ k, (∀ j, j ≤ k → moreB s j = true) → (restB s k).size + k ≤ s.size
  | 0, _ => Nat.le_refl _
  | k + 1, h => by
    have ih := more_size s k fun j hj => h j (by omega)
    have h1 := h (k + 1) (Nat.le_refl _)
    have h2 := (cut_size (restB s k)).2 h1
    show (cut1 (restB s k)).2.1.size + (k + 1) ≤ s.size
    omega
theorem parts_end (s : ByteArray) : moreB s (nParts s) = false ∧ nParts s ≤ s.size + 1 ∧ 1 ≤ nParts s := by
  have hle := nFrom_le s (s.size + 2) 0
  have hall : ∀ j, j < nParts s → moreB s j = true := fun j hj => nFrom_lt s _ 0 j (Nat.zero_le _) hj
  have hn : nParts s ≤ s.size + 1 := by
    by_cases h : nParts s ≤ s.size + 1
    · exact h
    · have := more_size s (s.size + 1) fun j hj => hall j (by omega)
      omega
  refine ⟨nFrom_end s _ 0 (by unfold nParts at hn; omega), hn, ?_⟩
  have : nParts s = nFrom s (s.size + 1) 1 := by
    show (if moreB s 0 = true then nFrom s (s.size + 1) (0 + 1) else 0) = _
    rw [if_pos (show moreB s 0 = true from rfl)]
  have := nFrom_le s (s.size + 1) 1
  omega
theorem more_lt {s : ByteArray} {k : Nat} (hk : k ≤ nParts s) (h : moreB s k = true) : k < nParts s := by
  by_cases e : k = nParts s
  · rw [e, (parts_end s).1] at h
    cases h
  · omega
theorem more_end {s : ByteArray} {k : Nat} (hk : k ≤ nParts s) (h : ¬ (moreB s k = true)) : k = nParts s := by
  by_cases e : k < nParts s
  · exact absurd (nFrom_lt s _ 0 k (Nat.zero_le _) e) h
  · omega
theorem more_end' {s : ByteArray} {k : Nat} (hk : k ≤ nParts s) (h : moreB s k = false) : k = nParts s := more_end hk (by rw [h]; decide)
end Go.Proofs.YtmmclabkkigiaaaGreat

set_option maxRecDepth 20000
set_option maxHeartbeats 2000000
namespace Go.Proofs.YtmmclabkkigiaaaGreat
open Go Go.RowKit
theorem parts_spec {tx_ : ByteArray} (B : Nat) (w : World) : Spec Tryz.prog 36 #[(.string tx_)] B w [] (fun v H' => ∃ b1, v = .func (.func 69) #[] #[ptr b1] ∧ H' = [zb b1 9 [(.string tx_)]]) := by
 refine spec_Q Tryz.func36 rfl fun hs => ?_
 refine W.sr fun K1 hK1 => ?_
 refine zN [(.string tx_)] 9 hs fun b4 w2 hs3 => ?_
 refine zE 1 (hK1 _ _ ?_)
 refine W.sr fun K5 hK5 => ?_
 refine zE 2 (hK5 _ _ ?_)
 refine W.ret ?_
 refine ret_of (.func (.func 69) #[] #[(zp b4)]) (by kernel_rfl) ⟨_, ⟨b4, rfl, rfl⟩, hs3⟩
theorem parts1_spec {c1 yl : Nat} {tx_ : ByteArray} {Y : Nat → Asn} {Z : Asn} (B : Nat) (w : World) (hbm : tx_.size ≤ 1000000) (hy : ∀ k : Nat, k < nParts tx_ → ∀ w', YSpec Tryz.prog yl #[.string (partAt tx_ k)] B w' [Y k] (fun v H' => (v = .bool true ∧ H' = [Y (k + 1)]) ∨ (v = .bool false ∧ H' = [Z]))) : Spec Tryz.prog 69 #[(.func (.yield yl) #[] #[]), (zp c1)] B w [zb c1 9 [(.string tx_)], Y 0] (fun v H' => v = .tuple #[] ∧ (H' = [zb c1 9 [(.string tx_)], Y (nParts tx_)] ∨ H' = [zb c1 9 [(.string tx_)], Z])) := by
 refine spec_W Tryz.func69 rfl fun l0 hs => ?_
 refine W.sr fun K1 hK1 => ?_
 refine zL ⟨c1, 0, none⟩ (.string tx_) (hs.cellAt 0 rfl rfl) ?_
 refine zE 2 (hK1 _ _ ?_)
 refine W.block ?_
 refine W.loop (G := Nat) (fun | k, s_, w_ => (∃ us, s_ = slots 18 [(0, (.func (.yield yl) #[] #[])), (3, (.string (restB tx_ k))), (4, (.bool (moreB tx_ k)))] us) ∧ St B w l0 w_ [zb c1 9 [(.string tx_)], Y k] ∧ (k ≤ nParts tx_)) (fun k => nParts tx_ - k) 0 ⟨slots_intro _ (by kernel_rfl), hs, by omega⟩ ?_
 rintro k _ w2 ⟨⟨us, rfl⟩, hs3, hk0⟩
 refine W.seq fun K4 hK4 => ?_
 refine W.sr fun K5 hK5 => ?_
 refine zE 1 (hK5 _ _ ?_)
 refine W.cond (moreB tx_ k) (by kernel_rfl) (fun h6 => ?_) (fun h6 => ?_)
 ·
  have h6p : (moreB tx_ k) = true := h6
  have hlt_ : k < nParts tx_ := more_lt hk0 h6p
  refine W.skip ?_
  refine hK4 _ _ ?_
  refine W.block ?_
  refine W.sr fun K7 hK7 => ?_
  refine zE 1 (hK7 _ _ ?_)
  refine W.sr fun K8 hK8 => ?_
  refine zR 1 ?_
  refine zC00 hs3 (cut_spec (s := (restB tx_ k)) (hs := Nat.le_trans (restB_size tx_ k) hbm) B _) fun w9 hs11 => ?_
  refine zE 7 (hK8 _ _ ?_)
  refine W.sr fun K12 hK12 => ?_
  refine zR 2 ?_
  have hs13 := St.f1 hs11
  refine ops_yield (pre := [Y k]) (l := yl) hs13 (by kernel_rfl) (by kernel_rfl) (hy k hlt_ _) ?_
  rintro _ _ w14 (⟨rfl, rfl⟩ | ⟨rfl, rfl⟩) hs15
  ·
   have hs16 : St B w l0 w14 [Y (k + 1), zb c1 9 [(.string tx_)]] := hs15
   refine zE 1 (hK12 _ _ ?_)
   refine W.cond_false false (by kernel_rfl) rfl ?_
   refine W.skip ?_
   refine normal_block ?_
   have hs17 := St.f1 hs16
   exact ⟨k + 1, ⟨slots_intro _ (by kernel_rfl), hs17, by omega⟩, by omega⟩
  have hs18 : St B w l0 w14 [Z, zb c1 9 [(.string tx_)]] := hs15
  refine zE 1 (hK12 _ _ ?_)
  refine W.cond_true true (by kernel_rfl) rfl ?_
  refine W.ret (ret_block (ret_seq (ret_block ?_)))
  have hs19 := St.f1 hs18
  refine ret_of (.tuple #[]) (by kernel_rfl) ⟨_, ⟨rfl, .inr rfl⟩, hs19⟩
 have h6p : (moreB tx_ k) = false := h6
 refine W.exit (exit_seq (exit_seq (exit_here ?_)))
 have hn_ : k = nParts tx_ := more_end' hk0 h6p
 subst hn_
 refine ret_ofN (.tuple #[]) (by kernel_rfl) ⟨_, ⟨rfl, .inl rfl⟩, hs3⟩
end Go.Proofs.YtmmclabkkigiaaaGreat

set_option maxRecDepth 20000
set_option maxHeartbeats 1000000
namespace Go.Proofs.YtmmclabkkigiaaaGreat
open Go Go.RowKit
def slhas_M (tx_ : ByteArray) : Option (Bool) :=
 if (tx_.size : Int) ≥ 1 then (need ((0 : Int) ≤ 0 ∧ (0 : Int) ≤ 1 ∧ 1 ≤ (tx_.size : Int)) <|
some ((tx_.extract 0 1).toList == (ByteArray.mk #[47]).toList)) else (some false)
theorem slhas_walk {tx_ : ByteArray}  {r : Bool} (B : Nat) (w : World) (hm : slhas_M tx_ = some r) : Spec Tryz.prog 68 #[(.string tx_), (.string (ByteArray.mk #[47]))] B w [] (fun v H' => v = .bool r ∧ H' = []) := by
 refine spec_Q Tryz.func68 rfl fun hs => ?_
 unfold slhas_M at hm
 refine W.sr fun K1 hK1 => ?_
 refine zE 1 (hK1 _ _ ?_)
 refine W.sr fun K2 hK2 => ?_
 refine zR 6 ?_
 rcases Bool.eq_false_or_eq_true (decide ((tx_.size : Int) ≥ 1)) with h3 | h3
 ·
  obtain ⟨h3p, hm⟩ := iY hm h3
  refine zS 10 h3 ?_
  refine zS 9 h3 ?_
  refine zR 3 ?_
  obtain ⟨h4, hm⟩ := need_some hm
  refine ops_R (v := (.string (tx_.extract 0 1))) (runs_strSlice (b := tx_) (lo := none) (hi := (some 1)) 0 1 (.inr ⟨rfl, rfl⟩) (.inl (congrArg some rfl)) (by omega) (by omega) (by kernel_rfl)) ?_
  refine zE 4 (hK2 _ _ ?_)
  refine W.ret ?_
  obtain rfl := some_inj hm
  refine ret_of (.bool ((tx_.extract 0 1).toList == (ByteArray.mk #[47]).toList)) (by kernel_rfl) ⟨_, ⟨rfl, rfl⟩, hs⟩
 obtain ⟨h3p, hm⟩ := iN hm h3
 refine zS 10 h3 ?_
 refine zS 9 h3 ?_
 refine zE 8 (hK2 _ _ ?_)
 refine W.ret ?_
 obtain rfl := some_inj hm
 refine ret_of (.bool false) (by kernel_rfl) ⟨_, ⟨rfl, rfl⟩, hs⟩
end Go.Proofs.YtmmclabkkigiaaaGreat

set_option maxRecDepth 20000
set_option maxHeartbeats 1000000
namespace Go.Proofs.YtmmclabkkigiaaaGreat
open Go Go.RowKit
def shas_M (tx_ : ByteArray) : Option (Bool) :=
 (slhas_M tx_).bind fun r3 =>
some r3
theorem shas_walk {tx_ : ByteArray}  {r : Bool} (B : Nat) (w : World) (hm : shas_M tx_ = some r) : Spec Tryz.prog 35 #[(.string tx_), (.string (ByteArray.mk #[47]))] B w [] (fun v H' => v = .bool r ∧ H' = []) := by
 refine spec_Q Tryz.func35 rfl fun hs => ?_
 unfold shas_M at hm
 refine W.sr fun K1 hK1 => ?_
 refine zE 1 (hK1 _ _ ?_)
 refine W.sr fun K2 hK2 => ?_
 refine zR 2 ?_
 obtain ⟨r3, h4, hm⟩ := bind_some hm
 refine zC00 hs (slhas_walk (tx_ := tx_) (hm := h4) B _) fun w5 hs7 => ?_
 refine zE 1 (hK2 _ _ ?_)
 refine W.ret ?_
 obtain rfl := some_inj hm
 refine ret_of (.bool r3) (by kernel_rfl) ⟨_, ⟨rfl, rfl⟩, hs7⟩
end Go.Proofs.YtmmclabkkigiaaaGreat

set_option maxRecDepth 20000
set_option maxHeartbeats 4000000
namespace Go.Proofs.YtmmclabkkigiaaaGreat
open Go Go.RowKit
def psplit_D51 (q49 : List ByteArray) : Option (List ByteArray × Int) :=
 some (q49, 0)
def psplit_X51  : Option (List ByteArray × Int) :=
 some ([], 13)
def psplit_R51 (tx_ : ByteArray) (k45 : Nat) (c46 : (List ByteArray) → Option (List ByteArray × Int)) (q49 : List ByteArray) : Option (List ByteArray × Int) :=
 (emay_M (partAt (tx_.extract 1 tx_.size) k45)).bind fun r106 =>
if r106 = true then (need (q49.length + 1 ≤ 1000000000) <|
c46 (q49 ++ [(partAt (tx_.extract 1 tx_.size) k45)])) else (psplit_X51)
def psplit_J1 (tx_ : ByteArray) (p9 : Bool) : Option (List ByteArray × Int) :=
 if p9 = true then (some ([], 13)) else (if (tx_.toList == (ByteArray.mk #[47]).toList) = true then (some ([], 0)) else (need ((0 : Int) ≤ 1 ∧ (1 : Int) ≤ (tx_.size : Int) ∧ (tx_.size : Int) ≤ (tx_.size : Int)) <|
need ((tx_.extract 1 tx_.size).size ≤ 1000000) <|
rounds (fun k_ c_ s_ => psplit_R51 tx_ k_ c_ s_) (fun s_ => psplit_D51 s_) (nParts (tx_.extract 1 tx_.size)) 0 ([])))
def psplit_M (tx_ : ByteArray) : Option (List ByteArray × Int) :=
 if (tx_.size : Int) > 200 then (psplit_J1 tx_ true) else ((shas_M tx_).bind fun r144 =>
psplit_J1 tx_ (!r144))
theorem psplit_walk {tx_ : ByteArray}  {r : List ByteArray × Int} (B : Nat) (w : World) (hm : psplit_M tx_ = some r) : Spec Tryz.prog 16 #[(.string tx_)] B w [] (fun v H' => ∃ a' c', v = .tuple #[.slice a' r.1.length c', .int .i64 r.2] ∧ H' = [kStr.row a' c' r.1]) := by
 refine spec_Q Tryz.func16 rfl fun hs => ?_
 unfold psplit_M at hm
 refine W.sr fun K1 hK1 => ?_
 refine zN [(.slice none 0 0)] 55 hs fun b4 w2 hs3 => ?_
 refine zN [(zi 0)] 42 hs3 fun b7 w5 hs6 => ?_
 refine zD (hK1 _ _ ?_)
 refine W.seq fun K8 hK8 => ?_
 refine W.seq_join (fun s_ w_ => ∃ (p9 : Bool), (∃ us, s_ = slots 27 [(0, (.string tx_)), (2, (zp b4)), (3, (zp b7)), (12, (.bool p9))] us) ∧ St B w [] w_ [zb b4 55 [(.slice none 0 0)], zb b7 42 [(zi 0)]] ∧ psplit_J1 tx_ p9 = some r) ?_ ?_
 ·
  rintro _ w10 ⟨p9, ⟨us, rfl⟩, hs11, hm⟩
  unfold psplit_J1 at hm
  refine W.cond p9 (by kernel_rfl) (fun h12 => ?_) (fun h12 => ?_)
  ·
   have h12p : p9 = true := h12
   replace hm := ite_yes hm h12p
   refine W.sr fun K13 hK13 => ?_
   refine zT 0 [(.slice none 0 0)] [(.slice none 0 0)] hs11 fun w14 hs16 => ?_
   have hs19 := St.f1 hs16
   refine zT 0 [(zi 13)] [(zi 13)] hs19 fun w17 hs20 => ?_
   refine zD (hK13 _ _ ?_)
   refine W.ret (ret_seq ?_)
   have hs21 := St.knil kStr hs20
   obtain rfl := some_inj hm
   have hs22 := St.tk1 hs21
   refine ret_of (.tuple #[(.slice none 0 0), (zi 13)]) (resS_of (by kernel_rfl) (resD_two rfl (.cell (ad := ⟨b4, 0, none⟩) (by kernel_rfl) (by kernel_rfl) (hs21.cellAt 2 rfl rfl)) (.cell (ad := ⟨b7, 0, none⟩) (by kernel_rfl) (by kernel_rfl) (hs21.cellAt 1 rfl rfl)))) ⟨_, ⟨none, 0, rfl, rfl⟩, hs22⟩
  have h12p : ¬ (p9 = true) := ne_true_of_eq_false h12
  replace hm := ite_no hm h12p
  refine W.skip ?_
  refine hK8 _ _ ?_
  refine W.seq fun K23 hK23 => ?_
  refine W.sr fun K24 hK24 => ?_
  refine zE 2 (hK24 _ _ ?_)
  refine W.cond (tx_.toList == (ByteArray.mk #[47]).toList) (by kernel_rfl) (fun h25 => ?_) (fun h25 => ?_)
  ·
   have h25p : (tx_.toList == (ByteArray.mk #[47]).toList) = true := h25
   replace hm := ite_yes hm h25p
   refine W.sr fun K26 hK26 => ?_
   refine zT 0 [(.slice none 0 0)] [(.slice none 0 0)] hs11 fun w27 hs29 => ?_
   have hs32 := St.f1 hs29
   refine zT 0 [(zi 0)] [(zi 0)] hs32 fun w30 hs33 => ?_
   refine zD (hK26 _ _ ?_)
   refine W.ret (ret_seq ?_)
   have hs34 := St.knil kStr hs33
   obtain rfl := some_inj hm
   have hs35 := St.tk1 hs34
   refine ret_of (.tuple #[(.slice none 0 0), (zi 0)]) (resS_of (by kernel_rfl) (resD_two rfl (.cell (ad := ⟨b4, 0, none⟩) (by kernel_rfl) (by kernel_rfl) (hs34.cellAt 2 rfl rfl)) (.cell (ad := ⟨b7, 0, none⟩) (by kernel_rfl) (by kernel_rfl) (hs34.cellAt 1 rfl rfl)))) ⟨_, ⟨none, 0, rfl, rfl⟩, hs35⟩
  have h25p : ¬ ((tx_.toList == (ByteArray.mk #[47]).toList) = true) := ne_true_of_eq_false h25
  replace hm := ite_no hm h25p
  refine W.skip ?_
  refine hK23 _ _ ?_
  refine W.seq fun K36 hK36 => ?_
  refine W.sr fun K37 hK37 => ?_
  refine zR 1 ?_
  obtain ⟨h38, hm⟩ := need_some hm
  refine ops_R (v := (.string (tx_.extract 1 tx_.size))) (runs_strSlice (b := tx_) (lo := (some 1)) (hi := none) 1 tx_.size (.inl (congrArg some rfl)) (.inr ⟨rfl, rfl⟩) (by omega) (by omega) (by kernel_rfl)) ?_
  refine ops_call0 hs11 (by kernel_rfl) (parts_spec (tx_ := (tx_.extract 1 tx_.size)) B _) ?_
  rintro _ _ w40 ⟨b39, rfl, rfl⟩ hs41
  have hs42 := St.ap1 hs41
  refine zD (hK37 _ _ ?_)
  refine W.block ?_
  obtain ⟨h43, hm⟩ := need_some hm
  refine W.norm (n := 27) (l := [(2, (zp b4)), (3, (zp b7)), (17, (.func (.func 69) #[] #[(zp b39)]))]) (by kernel_rfl) (fun us44 => ?_)
  have hs50 := St.knil kStr hs42
  have hs56 := St.f3 hs50
  have hs57 := St.f3 hs56
  have hs58 := St.f2 hs57
  have hs59 := St.f3 hs58
  have hF60 : rounds (fun k_ c_ s_ => psplit_R51 tx_ k_ c_ s_) (fun s_ => psplit_D51 s_) ((nParts (tx_.extract 1 tx_.size)) - 0) 0 ([]) = some r := by rw [Nat.sub_zero]; exact hm
  clear hm
  refine W.roundsA (G := (List ByteArray) × (Option Addr) × Nat) (GZ := Unit) (gf := 69) (lb := #[(zp b39)]) (nParts (tx_.extract 1 tx_.size)) (fun k_ (q49, m47, m48) => rounds (fun k_ c_ s_ => psplit_R51 tx_ k_ c_ s_) (fun s_ => psplit_D51 s_) ((nParts (tx_.extract 1 tx_.size)) - k_) k_ q49 = some r) (fun (q49, m47, m48) => [kStr.row m47 m48 q49, zb b4 55 [(.slice m47 q49.length m48)], zb b7 42 [(zi 0)]]) .ret (fun _ => psplit_X51 = some r) (fun _ => [zb b4 55 [(.slice none 0 0)], zb b7 42 [(zi 13)]]) [zb b39 9 [(.string (tx_.extract 1 tx_.size))]] (fun k_ => #[(.string (partAt (tx_.extract 1 tx_.size) k_))]) (fun k_ l_ => slotsD 27 ((18, (.string (partAt (tx_.extract 1 tx_.size) k_))) :: [(2, (zp b4)), (3, (zp b7)), (17, (.func (.func 69) #[] #[(zp b39)]))]) us44 (some l_) []) ([], none, 0) hF60 hs59 rfl (by kernel_rfl) (fun _ _ => by kernel_rfl) (fun _ => rfl) (fun a_ k_ l_ h1_ h2_ => ⟨rel_round1 (n := 27) (by decide) h1_ h2_, rfl⟩) (fun l_ => #[.func (.yield l_) #[] #[], (zp b39)]) (fun _ => rfl) (fun l_ w_ Y_ Z_ hy_ => parts1_spec (tx_ := (tx_.extract 1 tx_.size)) (yl := l_) (Y := Y_) (Z := Z_) (hbm := h43) (hy := fun k_ h_ w_ => hy_ k_ h_ w_) _ w_) ?_ ?_ ?_
  rotate_left
  ·
   rintro D55 w61 ⟨q49, m47, m48⟩ hF63 hs62
   replace hF63 : rounds (fun k_ c_ s_ => psplit_R51 tx_ k_ c_ s_) (fun s_ => psplit_D51 s_) ((nParts (tx_.extract 1 tx_.size)) - (nParts (tx_.extract 1 tx_.size))) (nParts (tx_.extract 1 tx_.size)) q49 = some r := hF63
   rw [rounds_end] at hF63
   have hm : psplit_D51 q49 = some r := hF63
   clear hF63
   unfold psplit_D51 at hm
   have hs64 : St B w [] w61 [blk D55 (.deferred (some [])), zb b39 9 [(.string (tx_.extract 1 tx_.size))], kStr.row m47 m48 q49, zb b4 55 [(.slice m47 q49.length m48)], zb b7 42 [(zi 0)]] := hs62
   refine normal_block ?_
   refine hK36 _ _ ?_
   refine W.sr fun K65 hK65 => ?_
   refine zL ⟨b4, 0, none⟩ (.slice m47 q49.length m48) (hs64.cellAt 3 rfl rfl) ?_
   have hs68 := St.f3 hs64
   refine zT 0 [(.slice m47 q49.length m48)] [(.slice m47 q49.length m48)] hs68 fun w66 hs69 => ?_
   have hs72 := St.f4 hs69
   refine zT 0 [(zi 0)] [(zi 0)] hs72 fun w70 hs73 => ?_
   refine zD (hK65 _ _ ?_)
   refine W.ret ?_
   obtain rfl := some_inj hm
   have hs74 := St.f4 hs73
   have hs75 := St.f4 hs74
   have hs76 := St.f3 hs75
   have hs77 := St.f3 hs76
   have hs78 := St.f4 hs77
   refine leave_mark (D := D55) (v := (.tuple #[(.slice m47 q49.length m48), (zi 0)])) hs78 (by kernel_rfl) (fun w79 hs80 => (resD_two rfl (.cell (ad := ⟨b4, 0, none⟩) (by kernel_rfl) (by kernel_rfl) (hs80.cellAt 1 rfl rfl)) (.cell (ad := ⟨b7, 0, none⟩) (by kernel_rfl) (by kernel_rfl) (hs80.cellAt 0 rfl rfl)))) (fun w79 hs80 => ?_)
   have hs81 := St.f3 hs80
   have hs82 := St.tk1 hs81
   exact ⟨_, ⟨m47, m48, rfl, rfl⟩, hs82⟩
  ·
   rintro D85 w83 _ hm hs84
   replace hm : psplit_X51 = some r := hm
   unfold psplit_X51 at hm
   have hs86 : St B w [] w83 [blk D85 (.deferred (some [])), zb b39 9 [(.string (tx_.extract 1 tx_.size))], zb b4 55 [(.slice none 0 0)], zb b7 42 [(zi 13)]] := hs84
   refine W.ret (ret_block (ret_seq ?_))
   have hs87 := St.knil kStr hs86
   obtain rfl := some_inj hm
   have hs88 := St.f4 hs87
   have hs89 := St.f4 hs88
   have hs90 := St.f4 hs89
   have hs91 := St.f3 hs90
   have hs92 := St.f4 hs91
   refine leave_mark (D := D85) (v := (.tuple #[(.slice none 0 0), (zi 13)])) hs92 (by kernel_rfl) (fun w93 hs94 => (resD_two rfl (.cell (ad := ⟨b4, 0, none⟩) (by kernel_rfl) (by kernel_rfl) (hs94.cellAt 2 rfl rfl)) (.cell (ad := ⟨b7, 0, none⟩) (by kernel_rfl) (by kernel_rfl) (hs94.cellAt 3 rfl rfl)))) (fun w93 hs94 => ?_)
   have hs95 := St.tk1 hs94
   exact ⟨_, ⟨none, 0, rfl, rfl⟩, hs95⟩
  rintro k45 hk96 rc53 l52 w97 ⟨q49, m47, m48⟩ hF101 lf98 hs99 K100 hK100
  replace hF101 : rounds (fun k_ c_ s_ => psplit_R51 tx_ k_ c_ s_) (fun s_ => psplit_D51 s_) ((nParts (tx_.extract 1 tx_.size)) - k45) k45 q49 = some r := hF101
  rw [rounds_at hk96] at hF101
  obtain ⟨c46, hc46⟩ : ∃ c_, c_ = rounds (fun k_ c_ s_ => psplit_R51 tx_ k_ c_ s_) (fun s_ => psplit_D51 s_) ((nParts (tx_.extract 1 tx_.size)) - (k45 + 1)) (k45 + 1) := ⟨_, rfl⟩
  rw [← hc46] at hF101
  have hm : psplit_R51 tx_ k45 c46 q49 = some r := hF101
  clear hF101
  unfold psplit_R51 at hm
  refine W.region ?_
  refine zE 1 ?_
  refine hK100 _ _ hs99 (fun w102 hs103 => ?_)
  refine W.block ?_
  refine W.seq fun K104 hK104 => ?_
  refine W.sr fun K105 hK105 => ?_
  refine zR 1 ?_
  obtain ⟨r106, h107, hm⟩ := bind_some hm
  refine zC00 hs103 (emay_walk (tx_ := (partAt (tx_.extract 1 tx_.size) k45)) (hm := h107) B _) fun w108 hs110 => ?_
  refine zE 1 (hK105 _ _ ?_)
  refine W.cond (!r106) (by kernel_rfl) (fun h111 => ?_) (fun h111 => ?_)
  rotate_left
  ·
   have h111p : r106 = true := (bnot_false h111)
   replace hm := ite_yes hm h111p
   refine W.skip ?_
   refine hK104 _ _ ?_
   refine W.region ?_
   refine zL ⟨b4, 0, none⟩ (.slice m47 q49.length m48) (hs110.cellAt 2 rfl rfl) ?_
   refine zR 1 ?_
   refine ops_new (fun b => .slice (some ⟨b, 0, none⟩) 1 1) (.cells [(.string (partAt (tx_.extract 1 tx_.size) k45))].toArray 9 (0, 0)) hs110 (by kernel_rfl) (fun b114 w112 hs113 => ?_)
   have hs115 := St.f2 hs113
   obtain ⟨h120, hm⟩ := need_some hm
   refine ops_appendK kStr (bytes := 16) (a' := (some ⟨b114, 0, none⟩)) (c' := 1) (l := q49) (m := [(partAt (tx_.extract 1 tx_.size) k45)]) hs115 (by kernel_rfl) (by simp) (cells_blk (hs115.heapAt 1 rfl)) (by unfold maxLen; (try simp only [List.length_cons, List.length_nil]); omega) (by (try simp only [List.length_cons, List.length_nil]); omega) (fun a116 c117 w118 hs119 => ?_)
   have hs123 := St.f3 hs119
   refine zT 0 [(.slice a116 ((q49 ++ [(partAt (tx_.extract 1 tx_.size) k45)]).length) c117)] [(.slice a116 ((q49 ++ [(partAt (tx_.extract 1 tx_.size) k45)]).length) c117)] hs123 fun w121 hs124 => ?_
   refine zD ?_
   refine normal_block ?_
   have hs125 := St.f4 hs124
   have hs126 := St.f1 hs125
   have hs127 := St.f2 hs126
   have hs128 := St.f4 hs127
   have hs129 := St.tk4 hs128
   rw [hc46] at hm
   exact ⟨((q49 ++ [(partAt (tx_.extract 1 tx_.size) k45)]), a116, c117), hm, hs129⟩
  have h111p : ¬ (r106 = true) := ne_true_of_eq_false (bnot_true h111)
  replace hm := ite_no hm h111p
  refine W.sr fun K130 hK130 => ?_
  have hs133 := St.f2 hs110
  refine zT 0 [(.slice none 0 0)] [(.slice none 0 0)] hs133 fun w131 hs134 => ?_
  have hs137 := St.f3 hs134
  refine zT 0 [(zi 13)] [(zi 13)] hs137 fun w135 hs138 => ?_
  refine zD (hK130 _ _ ?_)
  refine W.ret (ret_seq (ret_block ?_))
  have hs139 := St.f1 hs138
  have hs140 := St.f2 hs139
  have hs141 := St.tk3 hs140
  exact ⟨rfl, (), hm, hs141⟩
 refine W.region ?_
 refine zR 4 ?_
 rcases Bool.eq_false_or_eq_true (decide ((tx_.size : Int) > 200)) with h142 | h142
 ·
  obtain ⟨h142p, hm⟩ := iY hm h142
  refine zS 8 h142 ?_
  refine zS 7 h142 ?_
  refine zE 4 ?_
  have hs143 := St.f1 hs6
  exact ⟨true, slots_intro _ (by kernel_rfl), hs143, hm⟩
 obtain ⟨h142p, hm⟩ := iN hm h142
 refine zS 8 h142 ?_
 refine zS 7 h142 ?_
 refine zR 1 ?_
 obtain ⟨r144, h145, hm⟩ := bind_some hm
 refine zC00 hs6 (shas_walk (tx_ := tx_) (hm := h145) B _) fun w146 hs148 => ?_
 refine zE 2 ?_
 have hs149 := St.f1 hs148
 exact ⟨(!r144), slots_intro _ (by kernel_rfl), hs149, hm⟩
end Go.Proofs.YtmmclabkkigiaaaGreat

namespace Go.Proofs.YtmmclabkkigiaaaGreat
open Go Go.RowKit
def go : List UInt8 → List UInt8 → List (List UInt8)
  | cur, [] => [cur]
  | cur, b :: t => if b = 47 then cur :: go [] t else go (cur ++ [b]) t
def bs (l : List UInt8) : ByteArray := ⟨l.toArray⟩
theorem bs_data (s : ByteArray) : bs s.data.toList = s := by
  unfold bs
  cases s
  simp
theorem data_bs (l : List UInt8) : (bs l).data.toList = l := by simp [bs]
theorem data_len (s : ByteArray) : s.data.toList.length = s.size := by rw [Array.length_toList]; rfl
theorem data_extract (s : ByteArray) (a b : Nat) : (s.extract a b).data.toList = (s.data.toList.take b).drop a := by
  simp [ByteArray.data_extract, Array.toList_extract, List.extract_eq_take_drop, List.drop_take]
theorem go_idx : ∀ (l cur : List UInt8), go cur l = if Lib.indexByte l 47 ≥ 0 then (cur ++ l.take (Lib.indexByte l 47).toNat) :: go [] (l.drop (Lib.indexByte l 47 + 1).toNat) else [cur ++ l]
  | [], cur => by simp [go, Lib.indexByte]
  | b :: l, cur => by
    have ih := go_idx l (cur ++ [b])
    have hr := idx_lt l
    have hgo : go cur (b :: l) = if b = 47 then cur :: go [] l else go (cur ++ [b]) l := rfl
    by_cases hb : b = 47
    · have hi : Lib.indexByte (b :: l) 47 = 0 := by rw [hb]; rfl
      rw [hgo, if_pos hb, hi, if_pos (by decide)]
      simp
    · have hi : Lib.indexByte (b :: l) 47 = if Lib.indexByte l 47 = -1 then -1 else Lib.indexByte l 47 + 1 := by
        show (if (b == 47) = true then (0 : Int) else if (Lib.indexByte l 47 == -1) = true then -1 else Lib.indexByte l 47 + 1) = _
        rw [if_neg (by simpa using hb)]
        simp only [beq_iff_eq]
      rw [hgo, if_neg hb, ih, hi]
      by_cases h1 : Lib.indexByte l 47 = -1
      · rw [h1, if_neg (by decide), if_pos rfl, if_neg (by decide)]
        simp
      · rw [if_pos (by omega), if_neg h1, if_pos (by omega), show (Lib.indexByte l 47 + 1).toNat = (Lib.indexByte l 47).toNat + 1 by omega, show (Lib.indexByte l 47 + 1 + 1).toNat = (Lib.indexByte l 47).toNat + 1 + 1 by omega, List.take_succ_cons, List.drop_succ_cons]
        simp
theorem go_part (s : ByteArray) : go [] s.data.toList = (cut1 s).1.data.toList :: (if (cut1 s).2.2 = true then go [] (cut1 s).2.1.data.toList else []) := by
  have hr := idx47_range s
  rw [go_idx]
  unfold cut1
  have e : idx47 s = Lib.indexByte s.data.toList 47 := rfl
  rw [← e]
  by_cases h : idx47 s ≥ 0
  · rw [if_pos h, if_pos h]
    simp only [if_true]
    rw [data_extract, data_extract, List.take_of_length_le (i := s.size) (by rw [data_len]; exact Nat.le_refl _)]
    simp
  · rw [if_neg h, if_neg h]
    simp
def fin : List ByteArray → List (List UInt8) → List ByteArray × Int
  | q, [] => (q, 0)
  | q, x :: r => if mayB (bs x) = true then fin (q ++ [bs x]) r else ([], 13)
theorem split_go (tx : ByteArray) : ∀ (t k : Nat) (q : List ByteArray), k + t = nParts (tx.extract 1 tx.size) → q.length ≤ k → k + t ≤ 1000000 →
    rounds (fun k_ c_ s_ => psplit_R51 tx k_ c_ s_) (fun s_ => psplit_D51 s_) t k q = some (fin q (if moreB (tx.extract 1 tx.size) k = true then go [] (restB (tx.extract 1 tx.size) k).data.toList else []))
  | 0, k, q, hk, _, _ => by
    have := (parts_end (tx.extract 1 tx.size)).1
    rw [show k = nParts (tx.extract 1 tx.size) by omega, this, if_neg (by decide)]
    rfl
  | t + 1, k, q, hk, hq, hm => by
    have hmore : moreB (tx.extract 1 tx.size) k = true := nFrom_lt _ _ 0 k (Nat.zero_le _) (show k < nParts (tx.extract 1 tx.size) by omega)
    rw [if_pos hmore, go_part]
    show psplit_R51 tx k (rounds (fun k_ c_ s_ => psplit_R51 tx k_ c_ s_) (fun s_ => psplit_D51 s_) t (k + 1)) q = _
    obtain ⟨c, hc⟩ : ∃ c, c = rounds (fun k_ c_ s_ => psplit_R51 tx k_ c_ s_) (fun s_ => psplit_D51 s_) t (k + 1) := ⟨_, rfl⟩
    rw [← hc]
    unfold psplit_R51
    refine bind_of (emay_eq _) ?_
    unfold fin
    rw [bs_data]
    show (if mayB (partAt (tx.extract 1 tx.size) k) = true then _ else _) = some (if mayB (partAt (tx.extract 1 tx.size) k) = true then _ else _)
    by_cases h : mayB (partAt (tx.extract 1 tx.size) k) = true
    · rw [if_pos h, if_pos h]
      refine need_of (by omega) ?_
      rw [hc]
      exact split_go tx t (k + 1) _ (by omega) (by rw [List.length_append]; simp only [List.length_cons, List.length_nil]; omega) (by omega)
    · rw [if_neg h, if_neg h]
      rfl
def slashB (tx : ByteArray) : Bool := decide ((tx.data.toList.head?) = some 47)
theorem take_one {l : List UInt8} (h : 1 ≤ l.length) : l.take 1 = [47] ↔ l.head? = some 47 := by
  cases l with
  | nil => simp at h
  | cons b l => simp
theorem shas_eq (tx : ByteArray) : shas_M tx = some (slashB tx) := by
  unfold shas_M slhas_M slashB
  by_cases h : (tx.size : Int) ≥ 1
  · rw [if_pos h]
    refine bind_of (need_of (by omega) rfl) ?_
    congr 1
    have hl := data_len tx
    have ht := take_one (l := tx.data.toList) (by omega)
    have he : (tx.extract 0 1).data.toList = tx.data.toList.take 1 := by rw [data_extract, List.drop_zero]
    by_cases hh : tx.data.toList.head? = some 47
    · rw [decide_eq_true hh]
      refine beq_toList.2 ?_
      rw [← bs_data (tx.extract 0 1), he, ht.2 hh]
      rfl
    · rw [decide_eq_false hh]
      cases hq : ((tx.extract 0 1).toList == (ByteArray.mk #[47]).toList) with
      | false => rfl
      | true =>
        have := beq_toList.1 hq
        rw [this] at he
        exact absurd (ht.1 he.symm) hh
  · rw [if_neg h]
    refine bind_of rfl ?_
    have hl := data_len tx
    have : tx.data.toList = [] := List.eq_nil_of_length_eq_zero (by omega)
    rw [this]
    rfl
def spl (tx : ByteArray) : List ByteArray × Int :=
  if (tx.size : Int) > 200 ∨ slashB tx = false then ([], 13) else if tx = ByteArray.mk #[47] then ([], 0) else fin [] (go [] (tx.data.toList.drop 1))
theorem ext_one (tx : ByteArray) : (tx.extract 1 tx.size).data.toList = tx.data.toList.drop 1 := by
  rw [data_extract, List.take_of_length_le (by rw [data_len]; exact Nat.le_refl _)]
theorem psplit_eq (tx : ByteArray) : psplit_M tx = some (spl tx) := by
  unfold psplit_M spl
  by_cases h1 : (tx.size : Int) > 200
  · rw [if_pos h1, if_pos (.inl h1)]
    rfl
  rw [if_neg h1]
  refine bind_of (shas_eq tx) ?_
  cases hs : slashB tx with
  | false =>
    rw [if_pos (.inr rfl)]
    rfl
  | true =>
    rw [if_neg (by rintro (h | h); exact h1 h; cases h)]
    unfold psplit_J1
    simp only [Bool.not_true, Bool.false_eq_true, if_false]
    by_cases h2 : tx = ByteArray.mk #[47]
    · rw [if_pos h2, if_pos (beq_toList.2 h2)]
    · rw [if_neg h2, if_neg fun q => h2 (beq_toList.1 q)]
      have hsz : 1 ≤ tx.size := by
        have hl := data_len tx
        cases hd : tx.data.toList with
        | nil => unfold slashB at hs; rw [hd] at hs; simp at hs
        | cons b l => rw [hd] at hl; simp at hl; omega
      have hes0 : (tx.extract 1 tx.size).size = tx.size - 1 := by rw [ByteArray.size_extract]; omega
      have hes : (tx.extract 1 tx.size).size ≤ 1000000 := by omega
      have hp := parts_end (tx.extract 1 tx.size)
      refine need_of (by omega) (need_of hes ?_)
      have := split_go tx (nParts (tx.extract 1 tx.size)) 0 [] (by omega) (Nat.le_refl _) (by omega)
      rw [this]
      show some (fin [] (if true = true then go [] (tx.extract 1 tx.size).data.toList else [])) = _
      rw [if_pos rfl, ext_one]
end Go.Proofs.YtmmclabkkigiaaaGreat
