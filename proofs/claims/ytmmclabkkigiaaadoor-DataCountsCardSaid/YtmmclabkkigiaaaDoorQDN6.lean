/- Texts, one behind the other: A4n, A4y, A4b, A4i, A4j, A4w, A4s, A4z, A4a, A4c, A4d, A4r, PDa. -/
import Derived.Test.YtmmclabkkigiaaaDoorQDN5
set_option linter.unusedVariables false
set_option linter.unusedSimpArgs false
set_option linter.unusedVariables false
set_option maxRecDepth 20000
set_option maxHeartbeats 8000000
namespace Go.Proofs.YtmmclabkkigiaaaDoor
open Go Go.RowKit
set_option linter.unusedSimpArgs false
set_option linter.unusedVariables false

def dNeed_M (img : List Int) (l : List (Int × Int)) (gw : Int) (gi : Int) (gb : Int) (n_ : Int) (at_ : Int) (ma_ : Int) : Option (Int) :=
 if (igetM img l gw gi gb n_).2 = 0 then (if (igetM img l gw gi gb n_).1.k = 2 then (some 0) else (if ma_ < 1 then (some 0) else (if at_ > 768 then (some 0) else (need (-9223372036854775808 ≤ at_ ∧ at_ ≤ 9223372036854775807) <|
need (-9223372036854775808 ≤ (768 - at_) ∧ (768 - at_) ≤ 9223372036854775807) <|
if ma_ > (768 - at_) then (some 0) else (need (-9223372036854775808 ≤ at_ ∧ at_ ≤ 9223372036854775807) <|
need (-9223372036854775808 ≤ at_ ∧ at_ ≤ 9223372036854775807) <|
need (-9223372036854775808 ≤ (at_ + ma_) ∧ (at_ + ma_) ≤ 9223372036854775807) <|
(dneedP_M img l gw gi gb n_ at_ (at_ + ma_) 0 0).bind fun r84 =>
if r84.1 = 0 then (need (-9223372036854775808 ≤ (r84.2.1 + r84.2.2) ∧ (r84.2.1 + r84.2.2) ≤ 9223372036854775807) <|
some (r84.2.1 + r84.2.2)) else (some 0)))))) else ((some ((igetM img l gw gi gb n_).2)).bind fun r120 =>
if r120 = 0 then (none) else (some 0))

theorem dNeed_walk {img : List Int} {l : List (Int × Int)} {gw : Int} {gi : Int} {gb : Int} {n_ : Int} {at_ : Int} {ma_ : Int} {vb : Nat} {r : Int} (B : Nat) (w : World) (hm : dNeed_M img l gw gi gb n_ at_ ma_ = some r) : Spec Tryd.prog 34 #[(.pointer (some ⟨vb, 0, none⟩)), (.agg #[(.int .i64 gw), (.int .i64 gi), (.int .i64 gb)]), (.int .i64 n_), (.int .u64 at_), (.int .i64 ma_)] B w [viewA (ptr vb) img l] (fun v H' => v = .int .i64 r ∧ H' = [viewA (ptr vb) img l]) := by
 refine spec_W Tryd.func34 rfl fun l0 hs => ?_
 unfold dNeed_M at hm
 refine W.sr fun K1 hK1 => ?_
 refine zN [(.int .i64 gw), (.int .i64 gi), (.int .i64 gb)] 23 hs fun b4 w2 hs3 => ?_
 refine zE 1 (hK1 _ _ ?_)
 refine W.sr fun K6 hK6 => ?_
 refine zR 1 ?_
 refine ops_R (runs_loadAgg (ad := ⟨b4, 0, none⟩) (cs := [(.int .i64 gw), (.int .i64 gi), (.int .i64 gb)]) (by kernel_rfl) (cells_sub (hs3.heapAt 0 rfl) rfl)) ?_
 refine zR 1 ?_
 rcases Bool.eq_false_or_eq_true (decide ((igetM img l gw gi gb n_).2 = 0)) with h7 | h7
 ·
  obtain ⟨h7p, hm⟩ := iY hm h7
  rcases Bool.eq_false_or_eq_true (decide ((igetM img l gw gi gb n_).1.k = 2)) with h8 | h8
  ·
   obtain ⟨h8p, hm⟩ := iY hm h8
   refine zC00 hs3 (dfile_dir (gw := gw) (gi := gi) (gb := gb) (n_ := n_) (hv := (hs3.entAt 1 rfl viewA_at)) (hP := h7p) (hK := h8p) B _) fun w9 hs11 => ?_
   refine zR 4 ?_
   refine zN [(.int .u64 0), (.int .u64 0), (.int .u64 0), (.int .u64 0), (.int .u64 0), (.int .u64 0), (.int .u64 0), (.int .u64 0), (.int .u64 0), (.int .u64 0)] 78 hs11 fun b14 w12 hs13 => ?_
   refine zN [(.pointer none)] 24 hs13 fun b17 w15 hs16 => ?_
   have hs20 := St.f1 hs16
   refine ops_store (off := 0) (cs := [(.int .u64 0), (.int .u64 0), (.int .u64 0), (.int .u64 0), (.int .u64 0), (.int .u64 0), (.int .u64 0), (.int .u64 0), (.int .u64 0), (.int .u64 0)]) (vs := [(.int .u64 0), (.int .u64 0), (.int .u64 0), (.int .u64 0), (.int .u64 0), (.int .u64 0), (.int .u64 0), (.int .u64 0), (.int .u64 0), (.int .u64 0)]) hs20 (by kernel_rfl) (by simp) rfl (fun w18 hs19 => ?_)
   have hs21 : St B w l0 w18 [blk b14 (.cells [(.int .u64 0), (.int .u64 0), (.int .u64 0), (.int .u64 0), (.int .u64 0), (.int .u64 0), (.int .u64 0), (.int .u64 0), (.int .u64 0), (.int .u64 0)].toArray 78 (0, 0)), blk b17 (.cells [(.pointer none)].toArray 24 (0, 0)), blk b4 (.cells [(.int .i64 gw), (.int .i64 gi), (.int .i64 gb)].toArray 23 (0, 0)), viewA (ptr vb) img l] := hs19
   have hs24 := St.f1 hs21
   refine ops_store (off := 0) (cs := [(.pointer none)]) (vs := [(.pointer none)]) hs24 (by kernel_rfl) (by simp) rfl (fun w22 hs23 => ?_)
   have hs25 : St B w l0 w22 [blk b17 (.cells [(.pointer none)].toArray 24 (0, 0)), blk b14 (.cells [(.int .u64 0), (.int .u64 0), (.int .u64 0), (.int .u64 0), (.int .u64 0), (.int .u64 0), (.int .u64 0), (.int .u64 0), (.int .u64 0), (.int .u64 0)].toArray 78 (0, 0)), blk b4 (.cells [(.int .i64 gw), (.int .i64 gi), (.int .i64 gb)].toArray 23 (0, 0)), viewA (ptr vb) img l] := hs23
   refine zE 1 (hK6 _ _ ?_)
   refine W.seq fun K26 hK26 => ?_
   refine W.sr fun K27 hK27 => ?_
   refine zE 17 (hK27 _ _ ?_)
   refine W.cond_true true (by kernel_rfl) rfl ?_
   refine W.sr fun K28 hK28 => ?_
   refine zE 1 (hK28 _ _ ?_)
   refine W.ret (ret_seq ?_)
   obtain rfl := some_inj hm
   have hs29 := St.f3 hs25
   have hs30 := St.tk1 hs29
   refine ret_of (.int .i64 0) (by kernel_rfl) ⟨_, ⟨rfl, rfl⟩, hs30⟩
  ·
   obtain ⟨h8p, hm⟩ := iN hm h8
   refine ops_call0 hs3 (by kernel_rfl) (dfile_ok (gw := gw) (gi := gi) (gb := gb) (n_ := n_) (hv := (hs3.entAt 1 rfl viewA_at)) (hP := h7p) (hK := h8p) B _) ?_
   rintro _ _ w32 ⟨b31, rfl, rfl⟩ hs33
   have hs34 := St.ap1 hs33
   refine zR 4 ?_
   refine zN [(.int .u64 0), (.int .u64 0), (.int .u64 0), (.int .u64 0), (.int .u64 0), (.int .u64 0), (.int .u64 0), (.int .u64 0), (.int .u64 0), (.int .u64 0)] 78 hs34 fun b37 w35 hs36 => ?_
   refine zN [(.pointer none)] 24 hs36 fun b40 w38 hs39 => ?_
   have hs43 := St.f1 hs39
   refine ops_store (off := 0) (cs := [(.int .u64 0), (.int .u64 0), (.int .u64 0), (.int .u64 0), (.int .u64 0), (.int .u64 0), (.int .u64 0), (.int .u64 0), (.int .u64 0), (.int .u64 0)]) (vs := [(.int .u64 ((igetM img l gw gi gb n_).1.k)), (.int .u64 ((igetM img l gw gi gb n_).1.l)), (.int .u64 ((igetM img l gw gi gb n_).1.o)), (.int .u64 ((igetM img l gw gi gb n_).1.s)), (.int .u64 ((igetM img l gw gi gb n_).1.a)), (.int .u64 ((igetM img l gw gi gb n_).1.b)), (.int .u64 ((igetM img l gw gi gb n_).1.c)), (.int .u64 ((igetM img l gw gi gb n_).1.d)), (.int .u64 ((igetM img l gw gi gb n_).1.e)), (.int .u64 ((igetM img l gw gi gb n_).1.m))]) hs43 (by kernel_rfl) (by simp) rfl (fun w41 hs42 => ?_)
   have hs44 : St B w l0 w41 [blk b37 (.cells [(.int .u64 ((igetM img l gw gi gb n_).1.k)), (.int .u64 ((igetM img l gw gi gb n_).1.l)), (.int .u64 ((igetM img l gw gi gb n_).1.o)), (.int .u64 ((igetM img l gw gi gb n_).1.s)), (.int .u64 ((igetM img l gw gi gb n_).1.a)), (.int .u64 ((igetM img l gw gi gb n_).1.b)), (.int .u64 ((igetM img l gw gi gb n_).1.c)), (.int .u64 ((igetM img l gw gi gb n_).1.d)), (.int .u64 ((igetM img l gw gi gb n_).1.e)), (.int .u64 ((igetM img l gw gi gb n_).1.m))].toArray 78 (0, 0)), blk b40 (.cells [(.pointer none)].toArray 24 (0, 0)), blk b31 (.cells [(.pointer (some ⟨vb, 0, none⟩)), (.int .i64 gw), (.int .i64 gi), (.int .i64 gb), (.int .i64 n_)].toArray 85 (0, 0)), blk b4 (.cells [(.int .i64 gw), (.int .i64 gi), (.int .i64 gb)].toArray 23 (0, 0)), viewA (ptr vb) img l] := hs42
   have hs47 := St.f1 hs44
   refine ops_store (off := 0) (cs := [(.pointer none)]) (vs := [(.pointer (some ⟨b31, 0, none⟩))]) hs47 (by kernel_rfl) (by simp) rfl (fun w45 hs46 => ?_)
   have hs48 : St B w l0 w45 [blk b40 (.cells [(.pointer (some ⟨b31, 0, none⟩))].toArray 24 (0, 0)), blk b37 (.cells [(.int .u64 ((igetM img l gw gi gb n_).1.k)), (.int .u64 ((igetM img l gw gi gb n_).1.l)), (.int .u64 ((igetM img l gw gi gb n_).1.o)), (.int .u64 ((igetM img l gw gi gb n_).1.s)), (.int .u64 ((igetM img l gw gi gb n_).1.a)), (.int .u64 ((igetM img l gw gi gb n_).1.b)), (.int .u64 ((igetM img l gw gi gb n_).1.c)), (.int .u64 ((igetM img l gw gi gb n_).1.d)), (.int .u64 ((igetM img l gw gi gb n_).1.e)), (.int .u64 ((igetM img l gw gi gb n_).1.m))].toArray 78 (0, 0)), blk b31 (.cells [(.pointer (some ⟨vb, 0, none⟩)), (.int .i64 gw), (.int .i64 gi), (.int .i64 gb), (.int .i64 n_)].toArray 85 (0, 0)), blk b4 (.cells [(.int .i64 gw), (.int .i64 gi), (.int .i64 gb)].toArray 23 (0, 0)), viewA (ptr vb) img l] := hs46
   refine zE 1 (hK6 _ _ ?_)
   refine W.seq fun K49 hK49 => ?_
   refine W.sr fun K50 hK50 => ?_
   refine zR 7 ?_
   rcases Bool.eq_false_or_eq_true (decide (ma_ < 1)) with h51 | h51
   ·
    obtain ⟨h51p, hm⟩ := iY hm h51
    refine zS 30 h51 ?_
    refine zS 28 h51 ?_
    refine zS 29 h51 ?_
    refine zE 10 (hK50 _ _ ?_)
    refine W.cond_true true (by kernel_rfl) rfl ?_
    refine W.sr fun K52 hK52 => ?_
    refine zE 1 (hK52 _ _ ?_)
    refine W.ret (ret_seq ?_)
    obtain rfl := some_inj hm
    have hs53 := St.f4 hs48
    have hs54 := St.tk1 hs53
    refine ret_of (.int .i64 0) (by kernel_rfl) ⟨_, ⟨rfl, rfl⟩, hs54⟩
   ·
    obtain ⟨h51p, hm⟩ := iN hm h51
    refine zS 30 h51 ?_
    refine zS 28 h51 ?_
    refine zS 29 h51 ?_
    refine zR 4 ?_
    rcases Bool.eq_false_or_eq_true (decide (at_ > 768)) with h55 | h55
    ·
     obtain ⟨h55p, hm⟩ := iY hm h55
     refine zS 34 h55 ?_
     refine zS 32 h55 ?_
     refine zS 33 h55 ?_
     refine zE 6 (hK50 _ _ ?_)
     refine W.cond_true true (by kernel_rfl) rfl ?_
     refine W.sr fun K56 hK56 => ?_
     refine zE 1 (hK56 _ _ ?_)
     refine W.ret (ret_seq ?_)
     obtain rfl := some_inj hm
     have hs57 := St.f4 hs48
     have hs58 := St.tk1 hs57
     refine ret_of (.int .i64 0) (by kernel_rfl) ⟨_, ⟨rfl, rfl⟩, hs58⟩
    ·
     obtain ⟨h55p, hm⟩ := iN hm h55
     refine zS 34 h55 ?_
     refine zS 32 h55 ?_
     refine zS 33 h55 ?_
     refine zR 2 ?_
     obtain ⟨h59, hm⟩ := need_some hm
     refine zI _ (wrap_i64 h59.1 h59.2) ?_
     obtain ⟨h60, hm⟩ := need_some hm
     refine zI _ (wrap_i64 h60.1 h60.2) ?_
     refine zE 2 (hK50 _ _ ?_)
     refine W.cond (decide (ma_ > (768 - at_))) (by kernel_rfl) (fun h61 => ?_) (fun h61 => ?_)
     ·
      obtain ⟨h61p, hm⟩ := iY hm h61
      refine W.sr fun K62 hK62 => ?_
      refine zE 1 (hK62 _ _ ?_)
      refine W.ret (ret_seq ?_)
      obtain rfl := some_inj hm
      have hs63 := St.f4 hs48
      have hs64 := St.tk1 hs63
      refine ret_of (.int .i64 0) (by kernel_rfl) ⟨_, ⟨rfl, rfl⟩, hs64⟩
     ·
      obtain ⟨h61p, hm⟩ := iN hm h61
      refine W.skip ?_
      refine hK49 _ _ ?_
      refine W.sr fun K65 hK65 => ?_
      refine zN [(.int .i64 0)] 3 hs48 fun b68 w66 hs67 => ?_
      refine zN [(.int .i64 0)] 3 hs67 fun b71 w69 hs70 => ?_
      have hs74 := St.f1 hs70
      refine ops_store (off := 0) (cs := [(.int .i64 0)]) (vs := [(.int .i64 0)]) hs74 (by kernel_rfl) (by simp) rfl (fun w72 hs73 => ?_)
      have hs75 : St B w l0 w72 [blk b68 (.cells [(.int .i64 0)].toArray 3 (0, 0)), blk b71 (.cells [(.int .i64 0)].toArray 3 (0, 0)), blk b40 (.cells [(.pointer (some ⟨b31, 0, none⟩))].toArray 24 (0, 0)), blk b37 (.cells [(.int .u64 ((igetM img l gw gi gb n_).1.k)), (.int .u64 ((igetM img l gw gi gb n_).1.l)), (.int .u64 ((igetM img l gw gi gb n_).1.o)), (.int .u64 ((igetM img l gw gi gb n_).1.s)), (.int .u64 ((igetM img l gw gi gb n_).1.a)), (.int .u64 ((igetM img l gw gi gb n_).1.b)), (.int .u64 ((igetM img l gw gi gb n_).1.c)), (.int .u64 ((igetM img l gw gi gb n_).1.d)), (.int .u64 ((igetM img l gw gi gb n_).1.e)), (.int .u64 ((igetM img l gw gi gb n_).1.m))].toArray 78 (0, 0)), blk b31 (.cells [(.pointer (some ⟨vb, 0, none⟩)), (.int .i64 gw), (.int .i64 gi), (.int .i64 gb), (.int .i64 n_)].toArray 85 (0, 0)), blk b4 (.cells [(.int .i64 gw), (.int .i64 gi), (.int .i64 gb)].toArray 23 (0, 0)), viewA (ptr vb) img l] := hs73
      have hs78 := St.f1 hs75
      refine ops_store (off := 0) (cs := [(.int .i64 0)]) (vs := [(.int .i64 0)]) hs78 (by kernel_rfl) (by simp) rfl (fun w76 hs77 => ?_)
      have hs79 : St B w l0 w76 [blk b71 (.cells [(.int .i64 0)].toArray 3 (0, 0)), blk b68 (.cells [(.int .i64 0)].toArray 3 (0, 0)), blk b40 (.cells [(.pointer (some ⟨b31, 0, none⟩))].toArray 24 (0, 0)), blk b37 (.cells [(.int .u64 ((igetM img l gw gi gb n_).1.k)), (.int .u64 ((igetM img l gw gi gb n_).1.l)), (.int .u64 ((igetM img l gw gi gb n_).1.o)), (.int .u64 ((igetM img l gw gi gb n_).1.s)), (.int .u64 ((igetM img l gw gi gb n_).1.a)), (.int .u64 ((igetM img l gw gi gb n_).1.b)), (.int .u64 ((igetM img l gw gi gb n_).1.c)), (.int .u64 ((igetM img l gw gi gb n_).1.d)), (.int .u64 ((igetM img l gw gi gb n_).1.e)), (.int .u64 ((igetM img l gw gi gb n_).1.m))].toArray 78 (0, 0)), blk b31 (.cells [(.pointer (some ⟨vb, 0, none⟩)), (.int .i64 gw), (.int .i64 gi), (.int .i64 gb), (.int .i64 n_)].toArray 85 (0, 0)), blk b4 (.cells [(.int .i64 gw), (.int .i64 gi), (.int .i64 gb)].toArray 23 (0, 0)), viewA (ptr vb) img l] := hs77
      refine zD (hK65 _ _ ?_)
      refine W.sr fun K80 hK80 => ?_
      refine zR 1 ?_
      obtain ⟨h81, hm⟩ := need_some hm
      refine zI _ (wrap_i64 h81.1 h81.2) ?_
      refine zR 1 ?_
      obtain ⟨h82, hm⟩ := need_some hm
      refine zI _ (wrap_i64 h82.1 h82.2) ?_
      refine zR 1 ?_
      obtain ⟨h83, hm⟩ := need_some hm
      refine zI _ (wrap_i64 h83.1 h83.2) ?_
      refine zR 1 ?_
      obtain ⟨r84, h85, hm⟩ := bind_some hm
      have hs86 := St.f1 hs79
      have hs87 := St.f6 hs86
      have hs88 := St.f5 hs87
      have hs89 := St.f4 hs88
      refine ops_call5 hs89 (by kernel_rfl) (dneedP_walk (mb := b31) (vb := vb) (mc := b40) (ac := b68) (cc := b71) (img := img) (l := l) (gw := gw) (gi := gi) (gb := gb) (n_ := n_) (f_ := at_) (to_ := (at_ + ma_)) (al := 0) (ch := 0) (hm := h85) B _) ?_
      rintro _ _ w90 ⟨rfl, rfl⟩ hs91
      have hs92 := St.ap5 hs91
      refine zE 1 (hK80 _ _ ?_)
      refine W.seq fun K93 hK93 => ?_
      refine W.sr fun K94 hK94 => ?_
      refine zE 2 (hK94 _ _ ?_)
      refine W.cond (!decide (r84.1 = 0)) (by kernel_rfl) (fun h95 => ?_) (fun h95 => ?_)
      rotate_left
      ·
       have h95p : r84.1 = 0 := of_decide_eq_true (bnot_false h95)
       replace hm := ite_yes hm h95p
       refine W.skip ?_
       refine hK93 _ _ ?_
       refine W.sr fun K96 hK96 => ?_
       refine zL ⟨b68, 0, none⟩ (.int .i64 r84.2.1) (hs92.cellAt 3 rfl rfl) ?_
       refine zL ⟨b71, 0, none⟩ (.int .i64 r84.2.2) (hs92.cellAt 4 rfl rfl) ?_
       obtain ⟨h97, hm⟩ := need_some hm
       refine zI _ (wrap_i64 h97.1 h97.2) ?_
       refine zE 1 (hK96 _ _ ?_)
       refine W.ret ?_
       obtain rfl := some_inj hm
       have hs98 := St.f2 hs92
       have hs99 := St.tk1 hs98
       refine ret_of (.int .i64 (r84.2.1 + r84.2.2)) (by kernel_rfl) ⟨_, ⟨rfl, rfl⟩, hs99⟩
      ·
       have h95p : ¬ (r84.1 = 0) := of_decide_eq_false (bnot_true h95)
       replace hm := ite_no hm h95p
       refine W.sr fun K100 hK100 => ?_
       refine zE 1 (hK100 _ _ ?_)
       refine W.ret (ret_seq ?_)
       obtain rfl := some_inj hm
       have hs101 := St.f2 hs92
       have hs102 := St.tk1 hs101
       refine ret_of (.int .i64 0) (by kernel_rfl) ⟨_, ⟨rfl, rfl⟩, hs102⟩
 ·
  obtain ⟨h7p, hm⟩ := iN hm h7
  refine zC00 hs3 (dfile_err (gw := gw) (gi := gi) (gb := gb) (n_ := n_) (hv := (hs3.entAt 1 rfl viewA_at)) (hN := h7p) B _) fun w103 hs105 => ?_
  refine zR 4 ?_
  refine zN [(.int .u64 0), (.int .u64 0), (.int .u64 0), (.int .u64 0), (.int .u64 0), (.int .u64 0), (.int .u64 0), (.int .u64 0), (.int .u64 0), (.int .u64 0)] 78 hs105 fun b108 w106 hs107 => ?_
  refine zN [(.pointer none)] 24 hs107 fun b111 w109 hs110 => ?_
  have hs114 := St.f1 hs110
  refine ops_store (off := 0) (cs := [(.int .u64 0), (.int .u64 0), (.int .u64 0), (.int .u64 0), (.int .u64 0), (.int .u64 0), (.int .u64 0), (.int .u64 0), (.int .u64 0), (.int .u64 0)]) (vs := [(.int .u64 0), (.int .u64 0), (.int .u64 0), (.int .u64 0), (.int .u64 0), (.int .u64 0), (.int .u64 0), (.int .u64 0), (.int .u64 0), (.int .u64 0)]) hs114 (by kernel_rfl) (by simp) rfl (fun w112 hs113 => ?_)
  have hs115 : St B w l0 w112 [blk b108 (.cells [(.int .u64 0), (.int .u64 0), (.int .u64 0), (.int .u64 0), (.int .u64 0), (.int .u64 0), (.int .u64 0), (.int .u64 0), (.int .u64 0), (.int .u64 0)].toArray 78 (0, 0)), blk b111 (.cells [(.pointer none)].toArray 24 (0, 0)), blk b4 (.cells [(.int .i64 gw), (.int .i64 gi), (.int .i64 gb)].toArray 23 (0, 0)), viewA (ptr vb) img l] := hs113
  have hs118 := St.f1 hs115
  refine ops_store (off := 0) (cs := [(.pointer none)]) (vs := [(.pointer none)]) hs118 (by kernel_rfl) (by simp) rfl (fun w116 hs117 => ?_)
  have hs119 : St B w l0 w116 [blk b111 (.cells [(.pointer none)].toArray 24 (0, 0)), blk b108 (.cells [(.int .u64 0), (.int .u64 0), (.int .u64 0), (.int .u64 0), (.int .u64 0), (.int .u64 0), (.int .u64 0), (.int .u64 0), (.int .u64 0), (.int .u64 0)].toArray 78 (0, 0)), blk b4 (.cells [(.int .i64 gw), (.int .i64 gi), (.int .i64 gb)].toArray 23 (0, 0)), viewA (ptr vb) img l] := hs117
  refine zR 1 ?_
  obtain ⟨r120, h121, hm⟩ := bind_some hm
  replace h121 := some_inj h121
  refine ops_set 13 (v := .int .i64 r120) (Eq.trans (by kernel_rfl) (congrArg (Value.int .i64) h121)) ?_
  refine zD (hK6 _ _ ?_)
  refine W.seq fun K122 hK122 => ?_
  refine W.sr fun K123 hK123 => ?_
  refine zR 3 ?_
  rcases Bool.eq_false_or_eq_true (!decide (r120 = 0)) with h124 | h124
  rotate_left
  ·
   have h124p : r120 = 0 := of_decide_eq_true (bnot_false h124)
   exact absurd h124p (fun e_ => h7p (h121.trans e_))
  ·
   have h124p : ¬ (r120 = 0) := of_decide_eq_false (bnot_true h124)
   replace hm := ite_no hm h124p
   refine zS 26 h124 ?_
   refine zS 25 h124 ?_
   refine zE 14 (hK123 _ _ ?_)
   refine W.cond_true true (by kernel_rfl) rfl ?_
   refine W.sr fun K125 hK125 => ?_
   refine zE 1 (hK125 _ _ ?_)
   refine W.ret (ret_seq ?_)
   obtain rfl := some_inj hm
   have hs126 := St.f3 hs119
   have hs127 := St.tk1 hs126
   refine ret_of (.int .i64 0) (by kernel_rfl) ⟨_, ⟨rfl, rfl⟩, hs127⟩

end Go.Proofs.YtmmclabkkigiaaaDoor

set_option linter.unusedVariables false
set_option maxRecDepth 20000
set_option maxHeartbeats 8000000
namespace Go.Proofs.YtmmclabkkigiaaaDoor
open Go Go.RowKit
set_option linter.unusedSimpArgs false
set_option linter.unusedVariables false

def dready_M (img : List Int) (l : List (Int × Int)) (gw : Int) (gi : Int) (gb : Int) (n_ : Int) (fr_ : Int) (ma_ : Int) : Option (Int) :=
 need (-9223372036854775808 ≤ (fr_ + ma_) ∧ (fr_ + ma_) ≤ 9223372036854775807) <|
(dreadyP_M img l gw gi gb n_ fr_ (fr_ + ma_)).bind fun r10 =>
if r10 = 0 then (need ((img.length : Int) ≤ 1000000000000) <|
if May gw gi gb ∧ wordsOf gw gi gb ≤ (img.length : Int) then ((afree_M img l gi gb (placeOf 6 gw gi gb 0) (placeOf 7 gw gi gb 0)).bind fun r35 =>
need (0 ≤ fr_ ∧ fr_ ≤ 18446744073709551615) <|
(dNeed_M img l gw gi gb n_ fr_ ma_).bind fun r42 =>
if r35.2 < r42 then (some 7) else (some 0)) else ((some (if May gw gi gb then (8 : Int) else 1)).bind fun r60 =>
if r60 = 0 then (need (0 ≤ fr_ ∧ fr_ ≤ 18446744073709551615) <|
(dNeed_M img l gw gi gb n_ fr_ ma_).bind fun r72 =>
if 0 < r72 then (some 7) else (some 0)) else (some r60))) else (some r10)

theorem dready_walk {img : List Int} {l : List (Int × Int)} {gw : Int} {gi : Int} {gb : Int} {n_ : Int} {fr_ : Int} {ma_ : Int} {vb mb : Nat} {r : Int} (B : Nat) (w : World) (hG : 0 < B) (hT : CellsAt (some ⟨0, 0, none⟩) tab8 w) (hm : dready_M img l gw gi gb n_ fr_ ma_ = some r) : Spec Tryd.prog 68 #[(.pointer (some ⟨vb, 0, none⟩)), (.agg #[(.int .i64 gw), (.int .i64 gi), (.int .i64 gb)]), (.int .i64 n_), (.pointer (some ⟨mb, 0, none⟩)), (.int .i64 fr_), (.int .i64 ma_)] B w [viewA (ptr vb) img l, blk mb (.cells [(.pointer (some ⟨vb, 0, none⟩)), (.int .i64 gw), (.int .i64 gi), (.int .i64 gb), (.int .i64 n_)].toArray 85 (0, 0))] (fun v H' => v = .int .i64 r ∧ H' = [viewA (ptr vb) img l, blk mb (.cells [(.pointer (some ⟨vb, 0, none⟩)), (.int .i64 gw), (.int .i64 gi), (.int .i64 gb), (.int .i64 n_)].toArray 85 (0, 0))]) := by
 refine spec_W Tryd.func68 rfl fun l0 hs => ?_
 unfold dready_M at hm
 refine W.sr fun K1 hK1 => ?_
 refine zN [(.int .i64 gw), (.int .i64 gi), (.int .i64 gb)] 23 hs fun b4 w2 hs3 => ?_
 refine zN [(.pointer (some ⟨mb, 0, none⟩))] 24 hs3 fun b7 w5 hs6 => ?_
 refine zE 1 (hK1 _ _ ?_)
 refine W.sr fun K8 hK8 => ?_
 refine zR 3 ?_
 obtain ⟨h9, hm⟩ := need_some hm
 refine zI _ (wrap_i64 h9.1 h9.2) ?_
 refine zR 1 ?_
 obtain ⟨r10, h11, hm⟩ := bind_some hm
 have hs12 := St.f2 hs6
 have hs13 := St.f3 hs12
 have hs14 := St.f2 hs13
 refine ops_call3 hs14 (by kernel_rfl) (dreadyP_walk (mb := mb) (vb := vb) (mc := b7) (img := img) (l := l) (gw := gw) (gi := gi) (gb := gb) (n_ := n_) (f_ := fr_) (to_ := (fr_ + ma_)) (hm := h11) B _) ?_
 rintro _ _ w15 ⟨rfl, rfl⟩ hs16
 have hs17 := St.ap3 hs16
 refine zE 1 (hK8 _ _ ?_)
 refine W.seq fun K18 hK18 => ?_
 refine W.sr fun K19 hK19 => ?_
 refine zE 2 (hK19 _ _ ?_)
 refine W.cond (!decide (r10 = 0)) (by kernel_rfl) (fun h20 => ?_) (fun h20 => ?_)
 rotate_left
 ·
  have h20p : r10 = 0 := of_decide_eq_true (bnot_false h20)
  replace hm := ite_yes hm h20p
  refine W.skip ?_
  refine hK18 _ _ ?_
  refine W.sr fun K22 hK22 => ?_
  refine zR 1 ?_
  refine ops_R (runs_loadAgg (ad := ⟨b4, 0, none⟩) (cs := [(.int .i64 gw), (.int .i64 gi), (.int .i64 gb)]) (by kernel_rfl) (cells_sub (hs17.heapAt 3 rfl) rfl)) ?_
  obtain ⟨h23, hm⟩ := need_some hm
  rcases Bool.eq_false_or_eq_true (decide (May gw gi gb ∧ wordsOf gw gi gb ≤ (img.length : Int))) with h24 | h24
  ·
   obtain ⟨h24p, hm⟩ := iY hm h24
   refine ops_call0 hs17 (by kernel_rfl) (anew_ok (gw := gw) (gi := gi) (gb := gb) (hv := (hs17.entAt 2 rfl viewA_at)) (hz := h23) (hP := h24p) B _) ?_
   rintro _ _ w28 ⟨b25, b26, b27, rfl, rfl⟩ hs29
   have hs30 := St.ap3 hs29
   refine zE 5 (hK22 _ _ ?_)
   refine W.seq fun K31 hK31 => ?_
   refine W.sr fun K32 hK32 => ?_
   refine zE 2 (hK32 _ _ ?_)
   refine W.cond_false false (by kernel_rfl) rfl ?_
   refine W.skip ?_
   refine hK31 _ _ ?_
   refine W.seq fun K33 hK33 => ?_
   refine W.sr fun K34 hK34 => ?_
   refine zR 1 ?_
   obtain ⟨r35, h36, hm⟩ := bind_some hm
   refine zC00 hs30 (afree_walk (hab := (hs30.heapAt 0 rfl)) (hib := (hs30.heapAt 1 rfl)) (hbb := (hs30.heapAt 2 rfl)) (hv := (hs30.entAt 5 rfl viewA_at)) (hm := h36) B _) fun w37 hs39 => ?_
   refine zE 5 (hK34 _ _ ?_)
   refine W.sr fun K40 hK40 => ?_
   refine zR 2 ?_
   refine ops_R (runs_loadAgg (ad := ⟨b4, 0, none⟩) (cs := [(.int .i64 gw), (.int .i64 gi), (.int .i64 gb)]) (by kernel_rfl) (cells_sub (hs39.heapAt 6 rfl) rfl)) ?_
   refine zR 2 ?_
   obtain ⟨h41, hm⟩ := need_some hm
   refine zI _ (wrap_u64 h41.1 (Int.lt_of_le_of_lt h41.2 (by decide))) ?_
   refine zR 1 ?_
   obtain ⟨r42, h43, hm⟩ := bind_some hm
   have hs44 := St.f5 hs39
   refine zC11 hs44 (dNeed_walk (vb := vb) (img := img) (l := l) (gw := gw) (gi := gi) (gb := gb) (n_ := n_) (at_ := fr_) (ma_ := ma_) (hm := h43) B _) fun w45 hs47 => ?_
   refine zE 1 (hK40 _ _ ?_)
   refine W.cond (decide (r35.2 < r42)) (by kernel_rfl) (fun h48 => ?_) (fun h48 => ?_)
   ·
    obtain ⟨h48p, hm⟩ := iY hm h48
    refine W.sr fun K49 hK49 => ?_
    refine zE 1 (hK49 _ _ ?_)
    refine W.ret (ret_seq ?_)
    obtain rfl := some_inj hm
    have hs50 := St.f5 hs47
    have hs51 := St.f1 hs50
    have hs52 := St.tk2 hs51
    refine ret_of (.int .i64 7) (by kernel_rfl) ⟨_, ⟨rfl, rfl⟩, hs52⟩
   ·
    obtain ⟨h48p, hm⟩ := iN hm h48
    refine W.skip ?_
    refine hK33 _ _ ?_
    refine W.sr fun K53 hK53 => ?_
    refine zE 1 (hK53 _ _ ?_)
    refine W.ret ?_
    obtain rfl := some_inj hm
    have hs54 := St.f5 hs47
    have hs55 := St.f1 hs54
    have hs56 := St.tk2 hs55
    refine ret_of (.int .i64 0) (by kernel_rfl) ⟨_, ⟨rfl, rfl⟩, hs56⟩
  ·
   obtain ⟨h24p, hm⟩ := iN hm h24
   refine zC00 hs17 (anew_err (gw := gw) (gi := gi) (gb := gb) (hv := (hs17.entAt 2 rfl viewA_at)) (hz := h23) (hN := h24p) B _) fun w57 hs59 => ?_
   refine zR 5 ?_
   obtain ⟨r60, h61, hm⟩ := bind_some hm
   replace h61 := some_inj h61
   refine ops_set 13 (v := .int .i64 r60) (Eq.trans (by kernel_rfl) (congrArg (Value.int .i64) h61)) ?_
   refine zD (hK22 _ _ ?_)
   refine W.seq fun K62 hK62 => ?_
   refine W.sr fun K63 hK63 => ?_
   refine zE 2 (hK63 _ _ ?_)
   refine W.cond (!decide (r60 = 0)) (by kernel_rfl) (fun h64 => ?_) (fun h64 => ?_)
   rotate_left
   ·
    have h64p : r60 = 0 := of_decide_eq_true (bnot_false h64)
    replace hm := ite_yes hm h64p
    refine W.skip ?_
    refine hK62 _ _ ?_
    refine W.seq fun K65 hK65 => ?_
    refine W.sr fun K66 hK66 => ?_
    refine zR 1 ?_
    refine zC00 hs59 (afree_nil B _) fun w67 hs69 => ?_
    refine zE 5 (hK66 _ _ ?_)
    refine W.sr fun K70 hK70 => ?_
    refine zR 2 ?_
    refine ops_R (runs_loadAgg (ad := ⟨b4, 0, none⟩) (cs := [(.int .i64 gw), (.int .i64 gi), (.int .i64 gb)]) (by kernel_rfl) (cells_sub (hs69.heapAt 3 rfl) rfl)) ?_
    refine zR 2 ?_
    obtain ⟨h71, hm⟩ := need_some hm
    refine zI _ (wrap_u64 h71.1 (Int.lt_of_le_of_lt h71.2 (by decide))) ?_
    refine zR 1 ?_
    obtain ⟨r72, h73, hm⟩ := bind_some hm
    have hs74 := St.f2 hs69
    refine zC11 hs74 (dNeed_walk (vb := vb) (img := img) (l := l) (gw := gw) (gi := gi) (gb := gb) (n_ := n_) (at_ := fr_) (ma_ := ma_) (hm := h73) B _) fun w75 hs77 => ?_
    refine zE 1 (hK70 _ _ ?_)
    refine W.cond (decide (0 < r72)) (by kernel_rfl) (fun h78 => ?_) (fun h78 => ?_)
    ·
     obtain ⟨h78p, hm⟩ := iY hm h78
     refine W.sr fun K79 hK79 => ?_
     refine zE 1 (hK79 _ _ ?_)
     refine W.ret (ret_seq ?_)
     obtain rfl := some_inj hm
     have hs80 := St.f2 hs77
     have hs81 := St.f1 hs80
     have hs82 := St.tk2 hs81
     refine ret_of (.int .i64 7) (by kernel_rfl) ⟨_, ⟨rfl, rfl⟩, hs82⟩
    ·
     obtain ⟨h78p, hm⟩ := iN hm h78
     refine W.skip ?_
     refine hK65 _ _ ?_
     refine W.sr fun K83 hK83 => ?_
     refine zE 1 (hK83 _ _ ?_)
     refine W.ret ?_
     obtain rfl := some_inj hm
     have hs84 := St.f2 hs77
     have hs85 := St.f1 hs84
     have hs86 := St.tk2 hs85
     refine ret_of (.int .i64 0) (by kernel_rfl) ⟨_, ⟨rfl, rfl⟩, hs86⟩
   ·
    have h64p : ¬ (r60 = 0) := of_decide_eq_false (bnot_true h64)
    replace hm := ite_no hm h64p
    refine W.sr fun K87 hK87 => ?_
    refine zE 2 (hK87 _ _ ?_)
    refine W.ret (ret_seq ?_)
    obtain rfl := some_inj hm
    have hs88 := St.f1 hs59
    have hs89 := St.f2 hs88
    have hs90 := St.tk2 hs89
    refine ret_of (.int .i64 r60) (by kernel_rfl) ⟨_, ⟨rfl, rfl⟩, hs90⟩
 ·
  have h20p : ¬ (r10 = 0) := of_decide_eq_false (bnot_true h20)
  replace hm := ite_no hm h20p
  refine W.sr fun K91 hK91 => ?_
  refine zE 2 (hK91 _ _ ?_)
  refine W.ret (ret_seq ?_)
  obtain rfl := some_inj hm
  have hs92 := St.f1 hs17
  have hs93 := St.f2 hs92
  have hs94 := St.tk2 hs93
  refine ret_of (.int .i64 r10) (by kernel_rfl) ⟨_, ⟨rfl, rfl⟩, hs94⟩

end Go.Proofs.YtmmclabkkigiaaaDoor

set_option linter.unusedVariables false
set_option maxRecDepth 20000
set_option maxHeartbeats 4000000
namespace Go.Proofs.YtmmclabkkigiaaaDoor
open Go Go.RowKit
set_option linter.unusedSimpArgs false
set_option linter.unusedVariables false

def dput_J2 (img : List Int) (at_ : Int) (k7 : ((List (Int × Int)) × Int) → Option (Int × List (Int × Int))) (l5 : List (Int × Int)) (p6 : Int) (p22 : Int) : Option (Int × List (Int × Int)) :=
 need (-9223372036854775808 ≤ (at_ + p6) ∧ (at_ + p6) ≤ 9223372036854775807) <|
(some ((vwrite img l5 (at_ + p6) p22).1)).bind fun r30 =>
if r30 = 0 then (need (-9223372036854775808 ≤ (p6 + 1) ∧ (p6 + 1) ≤ 9223372036854775807) <|
k7 ((vwrite img l5 (at_ + p6) p22).2, (p6 + 1))) else (some (r30, (vwrite img l5 (at_ + p6) p22).2))

def dput_J4 (f_ : Int) (bs : List Int) (p6 : Int) (k39 : (Int × Int) → Option (Int × List (Int × Int))) (p37 : Int) (p38 : Int) (p52 : Bool) : Option (Int × List (Int × Int)) :=
 if p52 = true then (need (-9223372036854775808 ≤ (8 * p38) ∧ (8 * p38) ≤ 9223372036854775807) <|
need (0 ≤ (8 * p38)) <|
need (0 ≤ (((p6 * 8) + p38) - f_) ∧ (((p6 * 8) + p38) - f_) < (bs.length : Int)) <|
need (0 ≤ (bs.getD ((((p6 * 8) + p38) - f_).toNat) 0) ∧ (bs.getD ((((p6 * 8) + p38) - f_).toNat) 0) ≤ 18446744073709551615) <|
need (-9223372036854775808 ≤ (8 * p38) ∧ (8 * p38) ≤ 9223372036854775807) <|
need (0 ≤ (8 * p38)) <|
need (-9223372036854775808 ≤ (p38 + 1) ∧ (p38 + 1) ≤ 9223372036854775807) <|
k39 ((bits .or .u64 (bits .andNot .u64 p37 (shlK .u64 255 (8 * p38))) (shlK .u64 (bs.getD ((((p6 * 8) + p38) - f_).toNat) 0) (8 * p38))), (p38 + 1))) else (need (-9223372036854775808 ≤ (p38 + 1) ∧ (p38 + 1) ≤ 9223372036854775807) <|
k39 (p37, (p38 + 1)))

def dput_B1 (img : List Int) (at_ : Int) (f_ : Int) (bs : List Int) (k7 : ((List (Int × Int)) × Int) → Option (Int × List (Int × Int))) (l5 : List (Int × Int)) (p6 : Int) (k39 : (Int × Int) → Option (Int × List (Int × Int))) (p37 : Int) (p38 : Int) : Option (Int × List (Int × Int)) :=
 if p38 < 8 then (need (-9223372036854775808 ≤ (p6 * 8) ∧ (p6 * 8) ≤ 9223372036854775807) <|
need (-9223372036854775808 ≤ ((p6 * 8) + p38) ∧ ((p6 * 8) + p38) ≤ 9223372036854775807) <|
need (-9223372036854775808 ≤ (((p6 * 8) + p38) - f_) ∧ (((p6 * 8) + p38) - f_) ≤ 9223372036854775807) <|
if (((p6 * 8) + p38) - f_) ≥ 0 then (dput_J4 f_ bs p6 k39 p37 p38 (decide ((((p6 * 8) + p38) - f_) < (bs.length : Int)))) else (dput_J4 f_ bs p6 k39 p37 p38 false)) else (dput_J2 img at_ k7 l5 p6 p37)

def dput_B0 (img : List Int) (at_ : Int) (f_ : Int) (bs : List Int) (k7 : ((List (Int × Int)) × Int) → Option (Int × List (Int × Int))) (l5 : List (Int × Int)) (p6 : Int) : Option (Int × List (Int × Int)) :=
 need (-9223372036854775808 ≤ (p6 * 8) ∧ (p6 * 8) ≤ 9223372036854775807) <|
need (-9223372036854775808 ≤ (f_ + (bs.length : Int)) ∧ (f_ + (bs.length : Int)) ≤ 9223372036854775807) <|
if (p6 * 8) < (f_ + (bs.length : Int)) then (need (-9223372036854775808 ≤ (at_ + p6) ∧ (at_ + p6) ≤ 9223372036854775807) <|
iter (fun k_ s_ => dput_B1 img at_ f_ bs k7 l5 p6 k_ s_.1 s_.2) FUEL ((vget img l5 (at_ + p6)), 0)) else (some (0, l5))

def dput_M (img : List Int) (l : List (Int × Int)) (at_ : Int) (f_ : Int) (bs : List Int) : Option (Int × List (Int × Int)) :=
 need (-9223372036854775808 ≤ (f_.tdiv 8) ∧ (f_.tdiv 8) ≤ 9223372036854775807) <|
iter (fun k_ s_ => dput_B0 img at_ f_ bs k_ s_.1 s_.2) FUEL (l, (f_.tdiv 8))

theorem dput_walk {img : List Int} {l : List (Int × Int)} {at_ : Int} {f_ : Int} {bs : List Int} {vb : Nat} {A_ : Asn} {ba : Option Addr} {bn bc : Nat} {r : Int × List (Int × Int)} (B : Nat) (w : World) (hA : ∀ {B_ : Nat} {w_ : World} {l_ : List Nat}, A_.P B_ w_ l_ → CellsAt ba (kU8.cells bs) w_) (hbn : bn = bs.length) (hm : dput_M img l at_ f_ bs = some r) : Spec Tryd.prog 70 #[(.pointer (some ⟨vb, 0, none⟩)), (.int .i64 at_), (.int .i64 f_), (.slice ba bn bc)] B w [viewA (ptr vb) img l, A_] (fun v H' => v = .int .i64 r.1 ∧ H' = [viewA (ptr vb) img r.2, A_]) := by
 refine spec_W Tryd.func70 rfl fun l0 hs => ?_
 unfold dput_M at hm
 subst hbn
 refine W.sr fun K1 hK1 => ?_
 refine zE 1 (hK1 _ _ ?_)
 refine W.seq fun K2 hK2 => ?_
 refine W.sr fun K3 hK3 => ?_
 refine zR 1 ?_
 obtain ⟨h4, hm⟩ := need_some hm
 refine ops_R (v := .int .i64 (f_.tdiv 8)) (runs_quo (k := .i64) (a := f_) (b := 8) (by kernel_rfl) (by decide) (wrap_i64 h4.1 h4.2)) ?_
 refine zE 1 (hK3 _ _ ?_)
 refine W.block ?_
 refine W.loop_iter (G := (List (Int × Int)) × Int) (σ := (List (Int × Int)) × Int) (fun | (l5, p6) => (l5, p6)) (fun | (l5, p6), s_, w_ => (∃ us, s_ = slots 71 [(0, (.pointer (some ⟨vb, 0, none⟩))), (1, (.int .i64 at_)), (2, (.int .i64 f_)), (3, (.slice ba bs.length bc)), (9, (.int .i64 p6))] us) ∧ St B w l0 w_ [viewA (ptr vb) img l5, A_]) (l, (f_.tdiv 8)) ⟨slots_intro _ (by kernel_rfl), hs⟩ hm ?_
 rintro k7 ih8 ⟨l5, p6⟩ _ w9 ⟨⟨us, rfl⟩, hs10⟩ hm
 replace hm : dput_B0 img at_ f_ bs k7 l5 p6 = some r := hm
 unfold dput_B0 at hm
 refine W.seq fun K11 hK11 => ?_
 refine W.sr fun K12 hK12 => ?_
 refine zR 1 ?_
 obtain ⟨h13, hm⟩ := need_some hm
 refine zI _ (wrap_i64 h13.1 h13.2) ?_
 refine zR 3 ?_
 obtain ⟨h14, hm⟩ := need_some hm
 refine zI _ (wrap_i64 h14.1 h14.2) ?_
 refine zE 1 (hK12 _ _ ?_)
 refine W.cond (decide ((p6 * 8) < (f_ + (bs.length : Int)))) (by kernel_rfl) (fun h15 => ?_) (fun h15 => ?_)
 ·
  obtain ⟨h15p, hm⟩ := iY hm h15
  refine W.skip ?_
  refine hK11 _ _ ?_
  refine W.seq fun K16 hK16 => ?_
  refine W.block ?_
  refine W.sr fun K17 hK17 => ?_
  refine zR 3 ?_
  obtain ⟨h18, hm⟩ := need_some hm
  refine zI _ (wrap_i64 h18.1 h18.2) ?_
  refine zC00 hs10 (get_spec (at_ := (at_ + p6)) (hv := (hs10.entAt 0 rfl viewA_at)) B _) fun w19 hs21 => ?_
  refine zE 1 (hK17 _ _ ?_)
  refine W.seq_join (fun s_ w_ => ∃ (p22 : Int), (∃ us, s_ = slots 71 [(0, (.pointer (some ⟨vb, 0, none⟩))), (1, (.int .i64 at_)), (2, (.int .i64 f_)), (3, (.slice ba bs.length bc)), (9, (.int .i64 p6)), (10, (.int .u64 p22))] us) ∧ St B w l0 w_ [viewA (ptr vb) img l5, A_] ∧ dput_J2 img at_ k7 l5 p6 p22 = some r) ?_ ?_
  ·
   rintro _ w23 ⟨p22, ⟨us, rfl⟩, hs24, hm⟩
   unfold dput_J2 at hm
   refine W.sr fun K25 hK25 => ?_
   refine zR 3 ?_
   obtain ⟨h26, hm⟩ := need_some hm
   refine zI _ (wrap_i64 h26.1 h26.2) ?_
   refine zR 1 ?_
   refine zC11 hs24 (sset_spec (b := vb) (img := img) (l := l5) (at_ := (at_ + p6)) (x_ := p22) B _) fun w27 hs29 => ?_
   refine zR 1 ?_
   obtain ⟨r30, h31, hm⟩ := bind_some hm
   replace h31 := some_inj h31
   refine ops_set 13 (v := .int .i64 r30) (Eq.trans (by kernel_rfl) (congrArg (Value.int .i64) h31)) ?_
   refine zD (hK25 _ _ ?_)
   refine W.sr fun K32 hK32 => ?_
   refine zE 2 (hK32 _ _ ?_)
   refine W.cond (!decide (r30 = 0)) (by kernel_rfl) (fun h33 => ?_) (fun h33 => ?_)
   rotate_left
   ·
    have h33p : r30 = 0 := of_decide_eq_true (bnot_false h33)
    replace hm := ite_yes hm h33p
    refine W.skip ?_
    refine normal_block ?_
    refine hK16 _ _ ?_
    refine W.region ?_
    refine zR 1 ?_
    obtain ⟨h34, hm⟩ := need_some hm
    refine zI _ (wrap_i64 h34.1 h34.2) ?_
    refine zE 1 ?_
    refine loopAt_next ?_
    exact ih8 ((vwrite img l5 (at_ + p6) p22).2, (p6 + 1)) _ _ ⟨slots_intro _ (by kernel_rfl), hs29⟩ hm
   ·
    have h33p : ¬ (r30 = 0) := of_decide_eq_false (bnot_true h33)
    replace hm := ite_no hm h33p
    refine W.sr fun K35 hK35 => ?_
    refine zE 2 (hK35 _ _ ?_)
    refine W.ret (ret_block (ret_seq (ret_seq (ret_block (ret_seq ?_)))))
    obtain rfl := some_inj hm
    refine ret_of (.int .i64 r30) (by kernel_rfl) ⟨_, ⟨rfl, rfl⟩, hs29⟩
  ·
   refine W.sr fun K36 hK36 => ?_
   refine zE 1 (hK36 _ _ ?_)
   refine W.block ?_
   refine W.loop_iter (G := Int × Int) (σ := Int × Int) (fun | (p37, p38) => (p37, p38)) (fun | (p37, p38), s_, w_ => (∃ us, s_ = slots 71 [(0, (.pointer (some ⟨vb, 0, none⟩))), (1, (.int .i64 at_)), (2, (.int .i64 f_)), (3, (.slice ba bs.length bc)), (9, (.int .i64 p6)), (10, (.int .u64 p37)), (30, (.int .i64 p38))] us) ∧ St B w l0 w_ [viewA (ptr vb) img l5, A_]) ((vget img l5 (at_ + p6)), 0) ⟨slots_intro _ (by kernel_rfl), hs21⟩ hm ?_
   rintro k39 ih40 ⟨p37, p38⟩ _ w41 ⟨⟨us, rfl⟩, hs42⟩ hm
   replace hm : dput_B1 img at_ f_ bs k7 l5 p6 k39 p37 p38 = some r := hm
   unfold dput_B1 at hm
   refine W.sr fun K43 hK43 => ?_
   refine zE 1 (hK43 _ _ ?_)
   refine W.seq fun K44 hK44 => ?_
   refine W.cond (decide (p38 < 8)) (by kernel_rfl) (fun h45 => ?_) (fun h45 => ?_)
   ·
    obtain ⟨h45p, hm⟩ := iY hm h45
    refine W.skip ?_
    refine hK44 _ _ ?_
    refine W.seq fun K46 hK46 => ?_
    refine W.block ?_
    refine W.sr fun K47 hK47 => ?_
    refine zE 2 (hK47 _ _ ?_)
    refine W.sr fun K48 hK48 => ?_
    refine zR 1 ?_
    obtain ⟨h49, hm⟩ := need_some hm
    refine zI _ (wrap_i64 h49.1 h49.2) ?_
    refine zR 1 ?_
    obtain ⟨h50, hm⟩ := need_some hm
    refine zI _ (wrap_i64 h50.1 h50.2) ?_
    refine zR 1 ?_
    obtain ⟨h51, hm⟩ := need_some hm
    refine zI _ (wrap_i64 h51.1 h51.2) ?_
    refine zE 1 (hK48 _ _ ?_)
    refine W.seq_join (fun s_ w_ => ∃ (p52 : Bool), (∃ us, s_ = slots 71 [(0, (.pointer (some ⟨vb, 0, none⟩))), (1, (.int .i64 at_)), (2, (.int .i64 f_)), (3, (.slice ba bs.length bc)), (9, (.int .i64 p6)), (10, (.int .u64 p37)), (11, (.int .i64 p38)), (12, (.int .i64 (((p6 * 8) + p38) - f_))), (30, (.int .i64 p38)), (46, (.bool p52))] us) ∧ St B w l0 w_ [viewA (ptr vb) img l5, A_] ∧ dput_J4 f_ bs p6 k39 p37 p38 p52 = some r) ?_ ?_
    ·
     rintro _ w53 ⟨p52, ⟨us, rfl⟩, hs54, hm⟩
     unfold dput_J4 at hm
     refine W.cond p52 (by kernel_rfl) (fun h55 => ?_) (fun h55 => ?_)
     ·
      have h55p : p52 = true := h55
      replace hm := ite_yes hm h55p
      have hs56 := hs54.drew
      refine W.regionD [(0, 0), (0, 0), (2, 2), (4, 4), (9, 9), (0, 0), (0, 0), (96, 96), (128, 128), (256, 256), (0, 0), (1024, 1024), (2560, 2560), (4112, 4112), (16383, 8193)] (fun w_ => St B w l0 w_ [viewA (ptr vb) img l5, A_]) (by kernel_rfl) hs56 ?_
      refine any_val (v := (.int .u64 p37)) (v' := (.int .u64 p37)) 0 (by kernel_rfl) (fun _ => by kernel_rfl) rfl hs56 ?_
      refine any_val (v := (.int .i64 p38)) (v' := (.int .i64 p38)) 1 (by kernel_rfl) (fun _ => by kernel_rfl) rfl hs56 ?_
      obtain ⟨h57, hm⟩ := need_some hm
      refine any_val (v := .int .i64 (IntKind.i64.wrap (8 * p38))) (v' := .int .i64 (8 * p38)) 2 (by kernel_rfl) (fun _ => by kernel_rfl) (congrArg (Value.int .i64) (wrap_i64 h57.1 h57.2)) hs56 ?_
      obtain ⟨h58, hm⟩ := need_some hm
      refine any_R (v := .int .u64 (shlK .u64 255 (8 * p38))) 3 (by kernel_rfl) (fun _ hS_ => runs_shift (b := true) (k := .u64) (x := 255) (y := (8 * p38)) (by kernel_rfl) h58) hs56 ?_
      refine any_val (v := (.int .u64 (bits .andNot .u64 p37 (shlK .u64 255 (8 * p38))))) (v' := (.int .u64 (bits .andNot .u64 p37 (shlK .u64 255 (8 * p38))))) 4 (by kernel_rfl) (fun _ => by kernel_rfl) rfl hs56 ?_
      refine any_val (v := (.slice ba bs.length bc)) (v' := (.slice ba bs.length bc)) 5 (by kernel_rfl) (fun _ => by kernel_rfl) rfl hs56 ?_
      refine any_val (v := (.int .i64 (((p6 * 8) + p38) - f_))) (v' := (.int .i64 (((p6 * 8) + p38) - f_))) 6 (by kernel_rfl) (fun _ => by kernel_rfl) rfl hs56 ?_
      obtain ⟨h60, hm⟩ := need_some hm
      have hk59 := lt_toNat h60
      refine any_R 7 (by kernel_rfl) (fun _ hS_ => runs_index (a := ba) (n := bs.length) (z := (((p6 * 8) + p38) - f_)) (size := 1) ((((p6 * 8) + p38) - f_).toNat) (nat_of h60.1) hk59 (kU8.addr (hs56.entAt 1 rfl hA) hk59) (by kernel_rfl)) hs56 ?_
      refine any_R 8 (by kernel_rfl) (fun _ hS_ => runs_load (ad := ((adr ba (((((p6 * 8) + p38) - f_).toNat) * 1)).add 0)) (v := (.int .u8 (bs.getD ((((p6 * 8) + p38) - f_).toNat) 0))) (by kernel_rfl) (kU8.at (hS_.entAt 1 rfl hA) hk59 0 0 rfl)) hs56 ?_
      obtain ⟨h61, hm⟩ := need_some hm
      refine any_val (v := .int .u64 (IntKind.u64.wrap (bs.getD ((((p6 * 8) + p38) - f_).toNat) 0))) (v' := .int .u64 (bs.getD ((((p6 * 8) + p38) - f_).toNat) 0)) 9 (by kernel_rfl) (fun _ => by kernel_rfl) (congrArg (Value.int .u64) (wrap_u64 h61.1 (Int.lt_of_le_of_lt h61.2 (by decide)))) hs56 ?_
      refine any_val (v := (.int .i64 p38)) (v' := (.int .i64 p38)) 10 (by kernel_rfl) (fun _ => by kernel_rfl) rfl hs56 ?_
      obtain ⟨h62, hm⟩ := need_some hm
      refine any_val (v := .int .i64 (IntKind.i64.wrap (8 * p38))) (v' := .int .i64 (8 * p38)) 11 (by kernel_rfl) (fun _ => by kernel_rfl) (congrArg (Value.int .i64) (wrap_i64 h62.1 h62.2)) hs56 ?_
      obtain ⟨h63, hm⟩ := need_some hm
      refine any_R (v := .int .u64 (shlK .u64 (bs.getD ((((p6 * 8) + p38) - f_).toNat) 0) (8 * p38))) 12 (by kernel_rfl) (fun _ hS_ => runs_shift (b := true) (k := .u64) (x := (bs.getD ((((p6 * 8) + p38) - f_).toNat) 0)) (y := (8 * p38)) (by kernel_rfl) h63) hs56 ?_
      refine any_val (v := (.int .u64 (bits .or .u64 (bits .andNot .u64 p37 (shlK .u64 255 (8 * p38))) (shlK .u64 (bs.getD ((((p6 * 8) + p38) - f_).toNat) 0) (8 * p38))))) (v' := (.int .u64 (bits .or .u64 (bits .andNot .u64 p37 (shlK .u64 255 (8 * p38))) (shlK .u64 (bs.getD ((((p6 * 8) + p38) - f_).toNat) 0) (8 * p38))))) 13 (by kernel_rfl) (fun _ => by kernel_rfl) rfl hs56 ?_
      refine any_val (v := (.int .u64 (bits .or .u64 (bits .andNot .u64 p37 (shlK .u64 255 (8 * p38))) (shlK .u64 (bs.getD ((((p6 * 8) + p38) - f_).toNat) 0) (8 * p38))))) (v' := (.int .u64 (bits .or .u64 (bits .andNot .u64 p37 (shlK .u64 255 (8 * p38))) (shlK .u64 (bs.getD ((((p6 * 8) + p38) - f_).toNat) 0) (8 * p38))))) 14 (by kernel_rfl) (fun _ => by kernel_rfl) rfl hs56 ?_
      refine any_done (by kernel_rfl) ?_
      refine normal_block ?_
      refine hK46 _ _ ?_
      refine W.region ?_
      obtain ⟨h64, hm⟩ := need_some hm
      refine zI _ (wrap_i64 h64.1 h64.2) ?_
      refine zE 1 ?_
      refine loopAt_next ?_
      exact ih40 ((bits .or .u64 (bits .andNot .u64 p37 (shlK .u64 255 (8 * p38))) (shlK .u64 (bs.getD ((((p6 * 8) + p38) - f_).toNat) 0) (8 * p38))), (p38 + 1)) _ _ ⟨slots_intro _ (by kernel_rfl), hs56⟩ hm
     ·
      have h55p : ¬ (p52 = true) := ne_true_of_eq_false h55
      replace hm := ite_no hm h55p
      refine W.skip ?_
      refine normal_block ?_
      refine hK46 _ _ ?_
      refine W.region ?_
      obtain ⟨h65, hm⟩ := need_some hm
      refine zI _ (wrap_i64 h65.1 h65.2) ?_
      refine zE 1 ?_
      refine loopAt_next ?_
      exact ih40 (p37, (p38 + 1)) _ _ ⟨slots_intro _ (by kernel_rfl), hs54⟩ hm
    ·
     refine W.region ?_
     refine zR 3 ?_
     rcases Bool.eq_false_or_eq_true (decide ((((p6 * 8) + p38) - f_) ≥ 0)) with h66 | h66
     ·
      obtain ⟨h66p, hm⟩ := iY hm h66
      refine zS 41 h66 ?_
      refine zS 40 h66 ?_
      refine zE 5 ?_
      exact ⟨(decide ((((p6 * 8) + p38) - f_) < (bs.length : Int))), slots_intro _ (by kernel_rfl), hs42, hm⟩
     ·
      obtain ⟨h66p, hm⟩ := iN hm h66
      refine zS 41 h66 ?_
      refine zS 40 h66 ?_
      refine zE 5 ?_
      exact ⟨false, slots_intro _ (by kernel_rfl), hs42, hm⟩
   ·
    obtain ⟨h45p, hm⟩ := iN hm h45
    refine W.exit (exit_seq (exit_seq (exit_here ?_)))
    exact ⟨p37, slots_intro _ (by kernel_rfl), hs42, hm⟩
 ·
  obtain ⟨h15p, hm⟩ := iN hm h15
  refine W.exit (exit_seq (exit_seq (exit_here ?_)))
  refine hK2 _ _ ?_
  refine W.sr fun K67 hK67 => ?_
  refine zE 1 (hK67 _ _ ?_)
  refine W.ret ?_
  obtain rfl := some_inj hm
  refine ret_of (.int .i64 0) (by kernel_rfl) ⟨_, ⟨rfl, rfl⟩, hs10⟩

end Go.Proofs.YtmmclabkkigiaaaDoor

set_option linter.unusedVariables false
set_option maxRecDepth 20000
set_option maxHeartbeats 8000000
namespace Go.Proofs.YtmmclabkkigiaaaDoor
open Go Go.RowKit
set_option linter.unusedSimpArgs false
set_option linter.unusedVariables false

def dwrite1_M (img : List Int) (l : List (Int × Int)) (gw : Int) (gi : Int) (gb : Int) (n_ : Int) (k_ : Int) (lo_ : Int) (hi_ : Int) (fr_ : Int) (ls : List Int) : Option (Int × List (Int × Int)) :=
 (bTake_M img l gw gi gb n_ k_).bind fun r3 =>
if r3.2.1 = 0 then (need (-9223372036854775808 ≤ (k_ * 64) ∧ (k_ * 64) ≤ 9223372036854775807) <|
need (-9223372036854775808 ≤ (lo_ - (k_ * 64)) ∧ (lo_ - (k_ * 64)) ≤ 9223372036854775807) <|
need (-9223372036854775808 ≤ (lo_ - fr_) ∧ (lo_ - fr_) ≤ 9223372036854775807) <|
need (-9223372036854775808 ≤ (hi_ - fr_) ∧ (hi_ - fr_) ≤ 9223372036854775807) <|
need (-9223372036854775808 ≤ (hi_ - fr_) ∧ (hi_ - fr_) ≤ 9223372036854775807) <|
need (0 ≤ (lo_ - fr_) ∧ (lo_ - fr_) ≤ (hi_ - fr_) ∧ (hi_ - fr_) ≤ (ls.length : Int)) <|
(dput_M img r3.2.2 (placeOf 9 gw gi gb r3.1) (lo_ - (k_ * 64)) ((ls.drop ((lo_ - fr_).toNat)).take (((hi_ - fr_).toNat) - ((lo_ - fr_).toNat)))).bind fun r43 =>
some (r43.1, r43.2)) else (some (r3.2.1, r3.2.2))

theorem dwrite1_walk {img : List Int} {l : List (Int × Int)} {gw : Int} {gi : Int} {gb : Int} {n_ : Int} {k_ : Int} {lo_ : Int} {hi_ : Int} {fr_ : Int} {ls : List Int} {mb vb mc vc gc : Nat} {lc fc : Nat} {la : Option Addr} {lcc : Nat} {A_ : Asn} {r : Int × List (Int × Int)} (B : Nat) (w : World) (hG : 0 < B) (hT : CellsAt (some ⟨0, 0, none⟩) tab8 w) (hA : ∀ {B_ : Nat} {w_ : World} {l_ : List Nat}, A_.P B_ w_ l_ → CellsAt la (kU8.cells ls) w_) (hlc : ls.length ≤ lcc) (hm : dwrite1_M img l gw gi gb n_ k_ lo_ hi_ fr_ ls = some r) : Spec Tryd.prog 69 #[(.int .i64 k_), (.int .i64 lo_), (.int .i64 hi_), (.pointer (some ⟨mc, 0, none⟩)), (.pointer (some ⟨vc, 0, none⟩)), (.pointer (some ⟨gc, 0, none⟩)), (.pointer (some ⟨lc, 0, none⟩)), (.pointer (some ⟨fc, 0, none⟩))] B w [blk mc (.cells [(.pointer (some ⟨mb, 0, none⟩))].toArray 24 (0, 0)), blk mb (.cells [(.pointer (some ⟨vb, 0, none⟩)), (.int .i64 gw), (.int .i64 gi), (.int .i64 gb), (.int .i64 n_)].toArray 85 (0, 0)), viewA (ptr vb) img l, blk vc (.cells [(.pointer (some ⟨vb, 0, none⟩))].toArray 30 (0, 0)), blk gc (.cells [(.int .i64 gw), (.int .i64 gi), (.int .i64 gb)].toArray 23 (0, 0)), blk lc (.cells [(.slice la ls.length lcc)].toArray 51 (0, 0)), blk fc (.cells [(.int .i64 fr_)].toArray 3 (0, 0)), A_] (fun v H' => v = .int .i64 r.1 ∧ H' = [blk mc (.cells [(.pointer (some ⟨mb, 0, none⟩))].toArray 24 (0, 0)), blk mb (.cells [(.pointer (some ⟨vb, 0, none⟩)), (.int .i64 gw), (.int .i64 gi), (.int .i64 gb), (.int .i64 n_)].toArray 85 (0, 0)), viewA (ptr vb) img r.2, blk vc (.cells [(.pointer (some ⟨vb, 0, none⟩))].toArray 30 (0, 0)), blk gc (.cells [(.int .i64 gw), (.int .i64 gi), (.int .i64 gb)].toArray 23 (0, 0)), blk lc (.cells [(.slice la ls.length lcc)].toArray 51 (0, 0)), blk fc (.cells [(.int .i64 fr_)].toArray 3 (0, 0)), A_]) := by
 refine spec_W Tryd.func69 rfl fun l0 hs => ?_
 unfold dwrite1_M at hm
 refine W.sr fun K1 hK1 => ?_
 refine zE 1 (hK1 _ _ ?_)
 refine W.sr fun K2 hK2 => ?_
 refine zL ⟨mc, 0, none⟩ (.pointer (some ⟨mb, 0, none⟩)) (hs.cellAt 0 rfl rfl) ?_
 refine zR 1 ?_
 obtain ⟨r3, h4, hm⟩ := bind_some hm
 have hs5 := St.f2 hs
 have hs6 := St.f2 hs5
 refine zC22 hs6 (bTake_walk (mb := mb) (vb := vb) (k_ := k_) (img := img) (l := l) (gw := gw) (gi := gi) (gb := gb) (n_ := n_) (hG := hG) (hT := (hs.oldCellsB hG hT)) (hm := h4) B _) fun w7 hs9 => ?_
 refine zE 5 (hK2 _ _ ?_)
 refine W.seq fun K10 hK10 => ?_
 refine W.sr fun K11 hK11 => ?_
 refine zE 2 (hK11 _ _ ?_)
 refine W.cond (!decide (r3.2.1 = 0)) (by kernel_rfl) (fun h12 => ?_) (fun h12 => ?_)
 rotate_left
 ·
  have h12p : r3.2.1 = 0 := of_decide_eq_true (bnot_false h12)
  replace hm := ite_yes hm h12p
  refine W.skip ?_
  refine hK10 _ _ ?_
  refine W.seq fun K13 hK13 => ?_
  have hs14 := hs9.drew
  have hs15 := St.f7 hs14
  have hs16 := St.f7 hs15
  have hs17 := St.f7 hs16
  have hs18 := St.f7 hs17
  have hs19 := St.f7 hs18
  have hs20 := St.f7 hs19
  have hs21 := St.f6 hs20
  have hs22 := St.tk7 hs21
  refine W.regionD [(0, 0), (0, 0), (0, 0), (6, 6), (0, 0), (0, 0), (32, 32), (80, 80), (0, 0), (0, 0), (0, 0), (1536, 1536), (0, 0), (0, 0), (12288, 12288), (0, 0), (0, 0), (98304, 98304), (149760, 149760), (262281, 262281), (1048575, 524288)] (fun w_ => St B w l0 w_ [blk mb (.cells [(.pointer (some ⟨vb, 0, none⟩)), (.int .i64 gw), (.int .i64 gi), (.int .i64 gb), (.int .i64 n_)].toArray 85 (0, 0)), blk mc (.cells [(.pointer (some ⟨mb, 0, none⟩))].toArray 24 (0, 0)), blk vc (.cells [(.pointer (some ⟨vb, 0, none⟩))].toArray 30 (0, 0)), blk gc (.cells [(.int .i64 gw), (.int .i64 gi), (.int .i64 gb)].toArray 23 (0, 0)), blk lc (.cells [(.slice la ls.length lcc)].toArray 51 (0, 0)), blk fc (.cells [(.int .i64 fr_)].toArray 3 (0, 0)), A_]) (by kernel_rfl) hs22 ?_
  refine any_R 0 (by kernel_rfl) (fun _ hS_ => runs_load (ad := ⟨vc, 0, none⟩) (v := (.pointer (some ⟨vb, 0, none⟩))) (by kernel_rfl) (hS_.cellAt 2 rfl rfl)) hs22 ?_
  refine any_R 1 (by kernel_rfl) (fun _ hS_ => runs_loadAgg (ad := ⟨gc, 0, none⟩) (cs := [(.int .i64 gw), (.int .i64 gi), (.int .i64 gb)]) (by kernel_rfl) (cells_sub (hS_.heapAt 3 rfl) rfl)) hs22 ?_
  refine any_val (v := (.int .i64 r3.1)) (v' := (.int .i64 r3.1)) 2 (by kernel_rfl) (fun _ => by kernel_rfl) rfl hs22 ?_
  refine any_val (v := (.int .i64 lo_)) (v' := (.int .i64 lo_)) 4 (by kernel_rfl) (fun _ => by kernel_rfl) rfl hs22 ?_
  refine any_val (v := (.int .i64 k_)) (v' := (.int .i64 k_)) 5 (by kernel_rfl) (fun _ => by kernel_rfl) rfl hs22 ?_
  obtain ⟨h23, hm⟩ := need_some hm
  refine any_val (v := .int .i64 (IntKind.i64.wrap (k_ * 64))) (v' := .int .i64 (k_ * 64)) 6 (by kernel_rfl) (fun _ => by kernel_rfl) (congrArg (Value.int .i64) (wrap_i64 h23.1 h23.2)) hs22 ?_
  obtain ⟨h24, hm⟩ := need_some hm
  refine any_val (v := .int .i64 (IntKind.i64.wrap (lo_ - (k_ * 64)))) (v' := .int .i64 (lo_ - (k_ * 64))) 7 (by kernel_rfl) (fun _ => by kernel_rfl) (congrArg (Value.int .i64) (wrap_i64 h24.1 h24.2)) hs22 ?_
  refine any_R 8 (by kernel_rfl) (fun _ hS_ => runs_load (ad := ⟨lc, 0, none⟩) (v := (.slice la ls.length lcc)) (by kernel_rfl) (hS_.cellAt 4 rfl rfl)) hs22 ?_
  refine any_val (v := (.int .i64 lo_)) (v' := (.int .i64 lo_)) 9 (by kernel_rfl) (fun _ => by kernel_rfl) rfl hs22 ?_
  refine any_R 10 (by kernel_rfl) (fun _ hS_ => runs_load (ad := ⟨fc, 0, none⟩) (v := (.int .i64 fr_)) (by kernel_rfl) (hS_.cellAt 5 rfl rfl)) hs22 ?_
  obtain ⟨h25, hm⟩ := need_some hm
  refine any_val (v := .int .i64 (IntKind.i64.wrap (lo_ - fr_))) (v' := .int .i64 (lo_ - fr_)) 11 (by kernel_rfl) (fun _ => by kernel_rfl) (congrArg (Value.int .i64) (wrap_i64 h25.1 h25.2)) hs22 ?_
  refine any_val (v := (.int .i64 hi_)) (v' := (.int .i64 hi_)) 12 (by kernel_rfl) (fun _ => by kernel_rfl) rfl hs22 ?_
  refine any_R 13 (by kernel_rfl) (fun _ hS_ => runs_load (ad := ⟨fc, 0, none⟩) (v := (.int .i64 fr_)) (by kernel_rfl) (hS_.cellAt 5 rfl rfl)) hs22 ?_
  obtain ⟨h26, hm⟩ := need_some hm
  refine any_val (v := .int .i64 (IntKind.i64.wrap (hi_ - fr_))) (v' := .int .i64 (hi_ - fr_)) 14 (by kernel_rfl) (fun _ => by kernel_rfl) (congrArg (Value.int .i64) (wrap_i64 h26.1 h26.2)) hs22 ?_
  refine any_val (v := (.int .i64 hi_)) (v' := (.int .i64 hi_)) 15 (by kernel_rfl) (fun _ => by kernel_rfl) rfl hs22 ?_
  refine any_R 16 (by kernel_rfl) (fun _ hS_ => runs_load (ad := ⟨fc, 0, none⟩) (v := (.int .i64 fr_)) (by kernel_rfl) (hS_.cellAt 5 rfl rfl)) hs22 ?_
  obtain ⟨h27, hm⟩ := need_some hm
  refine any_val (v := .int .i64 (IntKind.i64.wrap (hi_ - fr_))) (v' := .int .i64 (hi_ - fr_)) 17 (by kernel_rfl) (fun _ => by kernel_rfl) (congrArg (Value.int .i64) (wrap_i64 h27.1 h27.2)) hs22 ?_
  obtain ⟨h28, hm⟩ := need_some hm
  have h29 : (lo_ - fr_).toNat ≤ (hi_ - fr_).toNat := by omega
  have h30 : (hi_ - fr_).toNat ≤ ls.length := by omega
  have h31 : (hi_ - fr_).toNat ≤ lcc := Nat.le_trans h30 hlc
  refine any_R 18 (by kernel_rfl) (fun _ hS_ => runs_part3 (a := la) (n := ls.length) (c := lcc) (lo := (lo_ - fr_)) (hi := (hi_ - fr_)) (mx_ := (hi_ - fr_)) (size := 1) ((lo_ - fr_).toNat) ((hi_ - fr_).toNat) ((ls.drop ((lo_ - fr_).toNat)).take (((hi_ - fr_).toNat) - ((lo_ - fr_).toNat))).length (nat_of h28.1) (nat_of (Int.le_trans h28.1 h28.2.1)) (nat_of (Int.le_trans h28.1 h28.2.1)) h29 h31 (part_len h29 h30) (by kernel_rfl)) hs22 ?_
  refine any_step 3 (by kernel_rfl) (by kernel_rfl) ?_
  refine zC00 hs14 (blockat_spec (gw := gw) (gi := gi) (gb := gb) (n_ := r3.1) B _) fun w32 hs34 => ?_
  have hs35 := St.f7 hs34
  have hs36 := St.f7 hs35
  have hs37 := St.f7 hs36
  have hs38 := St.f7 hs37
  have hs39 := St.f7 hs38
  have hs40 := St.f7 hs39
  have hs41 := St.f6 hs40
  have hs42 := St.tk7 hs41
  refine ops_done (by kernel_rfl) ⟨hs42, ?_⟩
  refine any_step 19 (by kernel_rfl) (by kernel_rfl) ?_
  obtain ⟨r43, h44, hm⟩ := bind_some hm
  have hs45 := St.f7 hs34
  have hs46 := St.f2 hs45
  refine zC22 hs46 (dput_walk (vb := vb) (A_ := A_) (ba := (partA la ((hi_ - fr_).toNat) ((lo_ - fr_).toNat) 1)) (bc := (((hi_ - fr_).toNat) - ((lo_ - fr_).toNat))) (img := img) (l := r3.2.2) (at_ := (placeOf 9 gw gi gb r3.1)) (f_ := (lo_ - (k_ * 64))) (bs := ((ls.drop ((lo_ - fr_).toNat)).take (((hi_ - fr_).toNat) - ((lo_ - fr_).toNat)))) (hA := fun h_ => (part_cells kU8 (hA h_) h29 h30 (Nat.le_refl _))) (hbn := rfl) (hm := h44) B _) fun w47 hs49 => ?_
  have hs50 := St.f1 hs49
  have hs51 := St.f7 hs50
  have hs52 := St.f7 hs51
  have hs53 := St.f7 hs52
  have hs54 := St.f7 hs53
  have hs55 := St.f7 hs54
  have hs56 := St.f7 hs55
  have hs57 := St.tk7 hs56
  refine ops_done (by kernel_rfl) ⟨hs57, ?_⟩
  refine any_val (v := (.int .i64 r43.1)) (v' := (.int .i64 r43.1)) 20 (by kernel_rfl) (fun _ => by kernel_rfl) rfl hs57 ?_
  refine any_done (by kernel_rfl) ?_
  refine hK13 _ _ ?_
  refine W.ret ?_
  obtain rfl := some_inj hm
  have hs58 := St.f1 hs49
  have hs59 := St.f7 hs58
  have hs60 := St.f7 hs59
  have hs61 := St.f7 hs60
  have hs62 := St.f7 hs61
  have hs63 := St.f5 hs62
  have hs64 := St.f6 hs63
  have hs65 := St.f7 hs64
  refine ret_of (.int .i64 r43.1) (by kernel_rfl) ⟨_, ⟨rfl, rfl⟩, hs65⟩
 ·
  have h12p : ¬ (r3.2.1 = 0) := of_decide_eq_false (bnot_true h12)
  replace hm := ite_no hm h12p
  refine W.sr fun K66 hK66 => ?_
  refine zE 2 (hK66 _ _ ?_)
  refine W.ret (ret_seq ?_)
  obtain rfl := some_inj hm
  have hs67 := St.f7 hs9
  have hs68 := St.f7 hs67
  have hs69 := St.f7 hs68
  have hs70 := St.f7 hs69
  have hs71 := St.f7 hs70
  have hs72 := St.f6 hs71
  have hs73 := St.f6 hs72
  have hs74 := St.f7 hs73
  refine ret_of (.int .i64 r3.2.1) (by kernel_rfl) ⟨_, ⟨rfl, rfl⟩, hs74⟩

end Go.Proofs.YtmmclabkkigiaaaDoor

set_option linter.unusedVariables false
set_option maxRecDepth 20000
set_option maxHeartbeats 8000000
namespace Go.Proofs.YtmmclabkkigiaaaDoor
open Go Go.RowKit
set_option linter.unusedSimpArgs false
set_option linter.unusedVariables false

def dwriteP_B0 (img : List Int) (gw : Int) (gi : Int) (gb : Int) (n_ : Int) (f_ : Int) (to_ : Int) (fr_ : Int) (ls : List Int) (k8 : (Int × (List (Int × Int))) → Option (Int × List (Int × Int))) (p6 : Int) (l7 : List (Int × Int)) : Option (Int × List (Int × Int)) :=
 need (-9223372036854775808 ≤ (p6 * 64) ∧ (p6 * 64) ≤ 9223372036854775807) <|
if (p6 * 64) < to_ then (need (-9223372036854775808 ≤ (p6 * 64) ∧ (p6 * 64) ≤ 9223372036854775807) <|
need (-9223372036854775808 ≤ (p6 + 1) ∧ (p6 + 1) ≤ 9223372036854775807) <|
need (-9223372036854775808 ≤ ((p6 + 1) * 64) ∧ ((p6 + 1) * 64) ≤ 9223372036854775807) <|
(dwrite1_M img l7 gw gi gb n_ p6 (mx f_ (p6 * 64)) (mn to_ ((p6 + 1) * 64)) fr_ ls).bind fun r29 =>
if r29.1 = 0 then (need (-9223372036854775808 ≤ (p6 + 1) ∧ (p6 + 1) ≤ 9223372036854775807) <|
k8 ((p6 + 1), r29.2)) else (some (r29.1, r29.2))) else (some (0, l7))

def dwriteP_M (img : List Int) (l : List (Int × Int)) (gw : Int) (gi : Int) (gb : Int) (n_ : Int) (f_ : Int) (to_ : Int) (fr_ : Int) (ls : List Int) : Option (Int × List (Int × Int)) :=
 need (0 ≤ f_) <|
need (-9223372036854775808 ≤ (f_ / 64) ∧ (f_ / 64) ≤ 9223372036854775807) <|
iter (fun k_ s_ => dwriteP_B0 img gw gi gb n_ f_ to_ fr_ ls k_ s_.1 s_.2) FUEL ((f_ / 64), l)

theorem dwriteP_walk {img : List Int} {l : List (Int × Int)} {gw : Int} {gi : Int} {gb : Int} {n_ : Int} {f_ : Int} {to_ : Int} {fr_ : Int} {ls : List Int} {mb vb mc vc gc : Nat} {lc fc : Nat} {la : Option Addr} {lcc : Nat} {A_ : Asn} {r : Int × List (Int × Int)} (B : Nat) (w : World) (hG : 0 < B) (hT : CellsAt (some ⟨0, 0, none⟩) tab8 w) (hA : ∀ {B_ : Nat} {w_ : World} {l_ : List Nat}, A_.P B_ w_ l_ → CellsAt la (kU8.cells ls) w_) (hlc : ls.length ≤ lcc) (hm : dwriteP_M img l gw gi gb n_ f_ to_ fr_ ls = some r) : Spec Tryd.prog 65 #[(.int .i64 f_), (.int .i64 to_), (.func (.func 69) #[] #[(.pointer (some ⟨mc, 0, none⟩)), (.pointer (some ⟨vc, 0, none⟩)), (.pointer (some ⟨gc, 0, none⟩)), (.pointer (some ⟨lc, 0, none⟩)), (.pointer (some ⟨fc, 0, none⟩))])] B w [blk mc (.cells [(.pointer (some ⟨mb, 0, none⟩))].toArray 24 (0, 0)), blk mb (.cells [(.pointer (some ⟨vb, 0, none⟩)), (.int .i64 gw), (.int .i64 gi), (.int .i64 gb), (.int .i64 n_)].toArray 85 (0, 0)), viewA (ptr vb) img l, blk vc (.cells [(.pointer (some ⟨vb, 0, none⟩))].toArray 30 (0, 0)), blk gc (.cells [(.int .i64 gw), (.int .i64 gi), (.int .i64 gb)].toArray 23 (0, 0)), blk lc (.cells [(.slice la ls.length lcc)].toArray 51 (0, 0)), blk fc (.cells [(.int .i64 fr_)].toArray 3 (0, 0)), A_] (fun v H' => v = .int .i64 r.1 ∧ H' = [blk mc (.cells [(.pointer (some ⟨mb, 0, none⟩))].toArray 24 (0, 0)), blk mb (.cells [(.pointer (some ⟨vb, 0, none⟩)), (.int .i64 gw), (.int .i64 gi), (.int .i64 gb), (.int .i64 n_)].toArray 85 (0, 0)), viewA (ptr vb) img r.2, blk vc (.cells [(.pointer (some ⟨vb, 0, none⟩))].toArray 30 (0, 0)), blk gc (.cells [(.int .i64 gw), (.int .i64 gi), (.int .i64 gb)].toArray 23 (0, 0)), blk lc (.cells [(.slice la ls.length lcc)].toArray 51 (0, 0)), blk fc (.cells [(.int .i64 fr_)].toArray 3 (0, 0)), A_]) := by
 refine spec_W Tryd.func65 rfl fun l0 hs => ?_
 unfold dwriteP_M at hm
 refine W.sr fun K1 hK1 => ?_
 refine zE 1 (hK1 _ _ ?_)
 refine W.seq fun K2 hK2 => ?_
 refine W.sr fun K3 hK3 => ?_
 refine zR 1 ?_
 obtain ⟨h4, hm⟩ := need_some hm
 obtain ⟨h5, hm⟩ := need_some hm
 refine ops_R (v := .int .i64 (f_ / 64)) (runs_quo (k := .i64) (a := f_) (b := 64) (by kernel_rfl) (by decide) ((congrArg IntKind.i64.wrap (Int.tdiv_eq_ediv_of_nonneg h4)).trans (wrap_i64 h5.1 h5.2))) ?_
 refine zE 1 (hK3 _ _ ?_)
 refine W.block ?_
 have hs12 := St.f7 hs
 have hs13 := St.f7 hs12
 have hs14 := St.f7 hs13
 have hs15 := St.f7 hs14
 have hs16 := St.f7 hs15
 have hs17 := St.f5 hs16
 have hs18 := St.f6 hs17
 have hs19 := St.f7 hs18
 refine W.loop_iter (G := Int × (List (Int × Int))) (σ := Int × (List (Int × Int))) (fun | (p6, l7) => (p6, l7)) (fun | (p6, l7), s_, w_ => (∃ us, s_ = slots 32 [(0, (.int .i64 f_)), (1, (.int .i64 to_)), (2, (.func (.func 69) #[] #[(.pointer (some ⟨mc, 0, none⟩)), (.pointer (some ⟨vc, 0, none⟩)), (.pointer (some ⟨gc, 0, none⟩)), (.pointer (some ⟨lc, 0, none⟩)), (.pointer (some ⟨fc, 0, none⟩))])), (7, (.int .i64 p6))] us) ∧ St B w l0 w_ [viewA (ptr vb) img l7, blk mb (.cells [(.pointer (some ⟨vb, 0, none⟩)), (.int .i64 gw), (.int .i64 gi), (.int .i64 gb), (.int .i64 n_)].toArray 85 (0, 0)), blk mc (.cells [(.pointer (some ⟨mb, 0, none⟩))].toArray 24 (0, 0)), blk vc (.cells [(.pointer (some ⟨vb, 0, none⟩))].toArray 30 (0, 0)), blk gc (.cells [(.int .i64 gw), (.int .i64 gi), (.int .i64 gb)].toArray 23 (0, 0)), blk lc (.cells [(.slice la ls.length lcc)].toArray 51 (0, 0)), blk fc (.cells [(.int .i64 fr_)].toArray 3 (0, 0)), A_]) ((f_ / 64), l) ⟨slots_intro _ (by kernel_rfl), hs19⟩ hm ?_
 rintro k8 ih9 ⟨p6, l7⟩ _ w10 ⟨⟨us, rfl⟩, hs11⟩ hm
 replace hm : dwriteP_B0 img gw gi gb n_ f_ to_ fr_ ls k8 p6 l7 = some r := hm
 unfold dwriteP_B0 at hm
 refine W.seq fun K20 hK20 => ?_
 refine W.sr fun K21 hK21 => ?_
 refine zR 1 ?_
 obtain ⟨h22, hm⟩ := need_some hm
 refine zI _ (wrap_i64 h22.1 h22.2) ?_
 refine zE 2 (hK21 _ _ ?_)
 refine W.cond (decide ((p6 * 64) < to_)) (by kernel_rfl) (fun h23 => ?_) (fun h23 => ?_)
 ·
  obtain ⟨h23p, hm⟩ := iY hm h23
  refine W.skip ?_
  refine hK20 _ _ ?_
  refine W.seq fun K24 hK24 => ?_
  refine W.block ?_
  refine W.sr fun K25 hK25 => ?_
  refine zR 4 ?_
  obtain ⟨h26, hm⟩ := need_some hm
  refine zI _ (wrap_i64 h26.1 h26.2) ?_
  refine zR 3 ?_
  obtain ⟨h27, hm⟩ := need_some hm
  refine zI _ (wrap_i64 h27.1 h27.2) ?_
  obtain ⟨h28, hm⟩ := need_some hm
  refine zI _ (wrap_i64 h28.1 h28.2) ?_
  refine zR 1 ?_
  obtain ⟨r29, h30, hm⟩ := bind_some hm
  have hs31 := St.f7 hs11
  have hs32 := St.f7 hs31
  have hs33 := St.f7 hs32
  have hs34 := St.f7 hs33
  have hs35 := St.f7 hs34
  have hs36 := St.f5 hs35
  have hs37 := St.f6 hs36
  have hs38 := St.f7 hs37
  refine ops_call8 hs38 (by kernel_rfl) (dwrite1_walk (mb := mb) (vb := vb) (mc := mc) (vc := vc) (gc := gc) (lc := lc) (fc := fc) (la := la) (lcc := lcc) (A_ := A_) (hG := hG) (hT := (hs11.oldCellsB hG hT)) (hA := fun h_ => (hA h_)) (hlc := hlc) (img := img) (l := l7) (gw := gw) (gi := gi) (gb := gb) (n_ := n_) (k_ := p6) (lo_ := (mx f_ (p6 * 64))) (hi_ := (mn to_ ((p6 + 1) * 64))) (fr_ := fr_) (ls := ls) (hm := h30) B _) ?_
  rintro _ _ w39 ⟨rfl, rfl⟩ hs40
  have hs41 := St.ap8 hs40
  refine zE 1 (hK25 _ _ ?_)
  refine W.sr fun K42 hK42 => ?_
  refine zE 2 (hK42 _ _ ?_)
  refine W.cond (!decide (r29.1 = 0)) (by kernel_rfl) (fun h43 => ?_) (fun h43 => ?_)
  rotate_left
  ·
   have h43p : r29.1 = 0 := of_decide_eq_true (bnot_false h43)
   replace hm := ite_yes hm h43p
   refine W.skip ?_
   refine normal_block ?_
   refine hK24 _ _ ?_
   refine W.region ?_
   refine zR 1 ?_
   obtain ⟨h44, hm⟩ := need_some hm
   refine zI _ (wrap_i64 h44.1 h44.2) ?_
   refine zE 1 ?_
   have hs45 := St.f7 hs41
   have hs46 := St.f7 hs45
   have hs47 := St.f7 hs46
   have hs48 := St.f7 hs47
   have hs49 := St.f7 hs48
   have hs50 := St.f5 hs49
   have hs51 := St.f6 hs50
   have hs52 := St.f7 hs51
   refine loopAt_next ?_
   exact ih9 ((p6 + 1), r29.2) _ _ ⟨slots_intro _ (by kernel_rfl), hs52⟩ hm
  ·
   have h43p : ¬ (r29.1 = 0) := of_decide_eq_false (bnot_true h43)
   replace hm := ite_no hm h43p
   refine W.sr fun K53 hK53 => ?_
   refine zE 2 (hK53 _ _ ?_)
   refine W.ret (ret_block (ret_seq (ret_seq (ret_block (ret_seq ?_)))))
   obtain rfl := some_inj hm
   refine ret_of (.int .i64 r29.1) (by kernel_rfl) ⟨_, ⟨rfl, rfl⟩, hs41⟩
 ·
  obtain ⟨h23p, hm⟩ := iN hm h23
  refine W.exit (exit_seq (exit_seq (exit_here ?_)))
  refine hK2 _ _ ?_
  refine W.sr fun K54 hK54 => ?_
  refine zE 1 (hK54 _ _ ?_)
  refine W.ret ?_
  obtain rfl := some_inj hm
  have hs55 := St.f7 hs11
  have hs56 := St.f7 hs55
  have hs57 := St.f7 hs56
  have hs58 := St.f7 hs57
  have hs59 := St.f7 hs58
  have hs60 := St.f5 hs59
  have hs61 := St.f6 hs60
  have hs62 := St.f7 hs61
  refine ret_of (.int .i64 0) (by kernel_rfl) ⟨_, ⟨rfl, rfl⟩, hs62⟩

end Go.Proofs.YtmmclabkkigiaaaDoor

set_option linter.unusedVariables false
set_option maxRecDepth 20000
set_option maxHeartbeats 8000000
namespace Go.Proofs.YtmmclabkkigiaaaDoor
open Go Go.RowKit
set_option linter.unusedSimpArgs false
set_option linter.unusedVariables false

def dWrite_J2 (img : List Int) (gw : Int) (gi : Int) (gb : Int) (n_ : Int) (r111 : Int × List (Int × Int)) (r127 : Int) (p129 : Bool) : Option (Int × List (Int × Int)) :=
 if p129 = true then ((some (placeOf 8 gw gi gb n_)).bind fun r143 =>
need (-9223372036854775808 ≤ (r143 + 3) ∧ (r143 + 3) ≤ 9223372036854775807) <|
(some ((vwrite img r111.2 (r143 + 3) r127).1)).bind fun r173 =>
some (r173, (vwrite img r111.2 (r143 + 3) r127).2)) else (some (r111.1, r111.2))

def dWrite_J1 (img : List Int) (l : List (Int × Int)) (gw : Int) (gi : Int) (gb : Int) (n_ : Int) (at_ : Int) (tx_ : ByteArray) (p65 : Bool) : Option (Int × List (Int × Int)) :=
 if p65 = true then (some (8, l)) else (if (tx_.toList == ByteArray.empty.toList) = true then (some (0, l)) else (need (-9223372036854775808 ≤ at_ ∧ at_ ≤ 9223372036854775807) <|
(dready_M img l gw gi gb n_ at_ (((strNums tx_).length) : Int)).bind fun r100 =>
if r100 = 0 then (need (-9223372036854775808 ≤ (at_ + (((strNums tx_).length) : Int)) ∧ (at_ + (((strNums tx_).length) : Int)) ≤ 9223372036854775807) <|
(dwriteP_M img l gw gi gb n_ at_ (at_ + (((strNums tx_).length) : Int)) at_ (strNums tx_)).bind fun r111 =>
need (0 ≤ (((strNums tx_).length) : Int) ∧ (((strNums tx_).length) : Int) ≤ 18446744073709551615) <|
(some ((at_ + (((strNums tx_).length) : Int)) % 18446744073709551616)).bind fun r127 =>
if r111.1 = 0 then (dWrite_J2 img gw gi gb n_ r111 r127 (decide (r127 > (igetM img l gw gi gb n_).1.s))) else (dWrite_J2 img gw gi gb n_ r111 r127 false)) else (some (r100, l))))

def dWrite_M (img : List Int) (l : List (Int × Int)) (gw : Int) (gi : Int) (gb : Int) (n_ : Int) (at_ : Int) (tx_ : ByteArray) : Option (Int × List (Int × Int)) :=
 if (igetM img l gw gi gb n_).2 = 0 then (if (igetM img l gw gi gb n_).1.k = 2 then (some (11, l)) else (if at_ > 768 then (dWrite_J1 img l gw gi gb n_ at_ tx_ (decide (at_ > 768))) else (need (-9223372036854775808 ≤ at_ ∧ at_ ≤ 9223372036854775807) <|
need (-9223372036854775808 ≤ (768 - at_) ∧ (768 - at_) ≤ 9223372036854775807) <|
dWrite_J1 img l gw gi gb n_ at_ tx_ (decide ((tx_.size : Int) > (768 - at_)))))) else ((some ((igetM img l gw gi gb n_).2)).bind fun r230 =>
if r230 = 0 then (none) else (some (r230, l)))

theorem dWrite_walk {img : List Int} {l : List (Int × Int)} {gw : Int} {gi : Int} {gb : Int} {n_ : Int} {at_ : Int} {tx_ : ByteArray} {vb : Nat} {r : Int × List (Int × Int)} (B : Nat) (w : World) (hG : 0 < B) (hT : CellsAt (some ⟨0, 0, none⟩) tab8 w) (hm : dWrite_M img l gw gi gb n_ at_ tx_ = some r) : Spec Tryd.prog 33 #[(.pointer (some ⟨vb, 0, none⟩)), (.agg #[(.int .i64 gw), (.int .i64 gi), (.int .i64 gb)]), (.int .i64 n_), (.int .u64 at_), (.string tx_)] B w [viewA (ptr vb) img l] (fun v H' => v = .int .i64 r.1 ∧ H' = [viewA (ptr vb) img r.2]) := by
 refine spec_W Tryd.func33 rfl fun l0 hs => ?_
 unfold dWrite_M at hm
 refine W.sr fun K1 hK1 => ?_
 refine zN [(.pointer (some ⟨vb, 0, none⟩))] 30 hs fun b4 w2 hs3 => ?_
 refine zN [(.int .i64 gw), (.int .i64 gi), (.int .i64 gb)] 23 hs3 fun b7 w5 hs6 => ?_
 refine zE 1 (hK1 _ _ ?_)
 refine W.sr fun K20 hK20 => ?_
 refine zL ⟨b4, 0, none⟩ (.pointer (some ⟨vb, 0, none⟩)) (hs6.cellAt 1 rfl rfl) ?_
 refine ops_R (runs_loadAgg (ad := ⟨b7, 0, none⟩) (cs := [(.int .i64 gw), (.int .i64 gi), (.int .i64 gb)]) (by kernel_rfl) (cells_sub (hs6.heapAt 0 rfl) rfl)) ?_
 refine zR 1 ?_
 rcases Bool.eq_false_or_eq_true (decide ((igetM img l gw gi gb n_).2 = 0)) with h21 | h21
 ·
  obtain ⟨h21p, hm⟩ := iY hm h21
  rcases Bool.eq_false_or_eq_true (decide ((igetM img l gw gi gb n_).1.k = 2)) with h22 | h22
  ·
   obtain ⟨h22p, hm⟩ := iY hm h22
   refine zC00 hs6 (dfile_dir (gw := gw) (gi := gi) (gb := gb) (n_ := n_) (hv := (hs6.entAt 2 rfl viewA_at)) (hP := h21p) (hK := h22p) B _) fun w23 hs25 => ?_
   refine zR 4 ?_
   refine zN [(.int .u64 0), (.int .u64 0), (.int .u64 0), (.int .u64 0), (.int .u64 0), (.int .u64 0), (.int .u64 0), (.int .u64 0), (.int .u64 0), (.int .u64 0)] 78 hs25 fun b28 w26 hs27 => ?_
   refine zN [(.pointer none)] 24 hs27 fun b31 w29 hs30 => ?_
   have hs34 := St.f1 hs30
   refine ops_store (off := 0) (cs := [(.int .u64 0), (.int .u64 0), (.int .u64 0), (.int .u64 0), (.int .u64 0), (.int .u64 0), (.int .u64 0), (.int .u64 0), (.int .u64 0), (.int .u64 0)]) (vs := [(.int .u64 0), (.int .u64 0), (.int .u64 0), (.int .u64 0), (.int .u64 0), (.int .u64 0), (.int .u64 0), (.int .u64 0), (.int .u64 0), (.int .u64 0)]) hs34 (by kernel_rfl) (by simp) rfl (fun w32 hs33 => ?_)
   have hs35 : St B w l0 w32 [blk b28 (.cells [(.int .u64 0), (.int .u64 0), (.int .u64 0), (.int .u64 0), (.int .u64 0), (.int .u64 0), (.int .u64 0), (.int .u64 0), (.int .u64 0), (.int .u64 0)].toArray 78 (0, 0)), blk b31 (.cells [(.pointer none)].toArray 24 (0, 0)), blk b7 (.cells [(.int .i64 gw), (.int .i64 gi), (.int .i64 gb)].toArray 23 (0, 0)), blk b4 (.cells [(.pointer (some ⟨vb, 0, none⟩))].toArray 30 (0, 0)), viewA (ptr vb) img l] := hs33
   have hs38 := St.f1 hs35
   refine ops_store (off := 0) (cs := [(.pointer none)]) (vs := [(.pointer none)]) hs38 (by kernel_rfl) (by simp) rfl (fun w36 hs37 => ?_)
   have hs39 : St B w l0 w36 [blk b31 (.cells [(.pointer none)].toArray 24 (0, 0)), blk b28 (.cells [(.int .u64 0), (.int .u64 0), (.int .u64 0), (.int .u64 0), (.int .u64 0), (.int .u64 0), (.int .u64 0), (.int .u64 0), (.int .u64 0), (.int .u64 0)].toArray 78 (0, 0)), blk b7 (.cells [(.int .i64 gw), (.int .i64 gi), (.int .i64 gb)].toArray 23 (0, 0)), blk b4 (.cells [(.pointer (some ⟨vb, 0, none⟩))].toArray 30 (0, 0)), viewA (ptr vb) img l] := hs37
   refine zE 1 (hK20 _ _ ?_)
   refine W.seq fun K40 hK40 => ?_
   refine W.block ?_
   refine W.sr fun K41 hK41 => ?_
   refine zE 3 (hK41 _ _ ?_)
   refine W.cond_true true (by kernel_rfl) rfl ?_
   refine W.sr fun K42 hK42 => ?_
   refine zE 2 (hK42 _ _ ?_)
   refine W.ret (ret_block (ret_seq ?_))
   obtain rfl := some_inj hm
   have hs43 := St.f4 hs39
   have hs44 := St.tk1 hs43
   refine ret_of (.int .i64 11) (by kernel_rfl) ⟨_, ⟨rfl, rfl⟩, hs44⟩
  ·
   obtain ⟨h22p, hm⟩ := iN hm h22
   refine ops_call0 hs6 (by kernel_rfl) (dfile_ok (gw := gw) (gi := gi) (gb := gb) (n_ := n_) (hv := (hs6.entAt 2 rfl viewA_at)) (hP := h21p) (hK := h22p) B _) ?_
   rintro _ _ w46 ⟨b45, rfl, rfl⟩ hs47
   have hs48 := St.ap1 hs47
   refine zR 4 ?_
   refine zN [(.int .u64 0), (.int .u64 0), (.int .u64 0), (.int .u64 0), (.int .u64 0), (.int .u64 0), (.int .u64 0), (.int .u64 0), (.int .u64 0), (.int .u64 0)] 78 hs48 fun b51 w49 hs50 => ?_
   refine zN [(.pointer none)] 24 hs50 fun b54 w52 hs53 => ?_
   have hs57 := St.f1 hs53
   refine ops_store (off := 0) (cs := [(.int .u64 0), (.int .u64 0), (.int .u64 0), (.int .u64 0), (.int .u64 0), (.int .u64 0), (.int .u64 0), (.int .u64 0), (.int .u64 0), (.int .u64 0)]) (vs := [(.int .u64 ((igetM img l gw gi gb n_).1.k)), (.int .u64 ((igetM img l gw gi gb n_).1.l)), (.int .u64 ((igetM img l gw gi gb n_).1.o)), (.int .u64 ((igetM img l gw gi gb n_).1.s)), (.int .u64 ((igetM img l gw gi gb n_).1.a)), (.int .u64 ((igetM img l gw gi gb n_).1.b)), (.int .u64 ((igetM img l gw gi gb n_).1.c)), (.int .u64 ((igetM img l gw gi gb n_).1.d)), (.int .u64 ((igetM img l gw gi gb n_).1.e)), (.int .u64 ((igetM img l gw gi gb n_).1.m))]) hs57 (by kernel_rfl) (by simp) rfl (fun w55 hs56 => ?_)
   have hs58 : St B w l0 w55 [blk b51 (.cells [(.int .u64 ((igetM img l gw gi gb n_).1.k)), (.int .u64 ((igetM img l gw gi gb n_).1.l)), (.int .u64 ((igetM img l gw gi gb n_).1.o)), (.int .u64 ((igetM img l gw gi gb n_).1.s)), (.int .u64 ((igetM img l gw gi gb n_).1.a)), (.int .u64 ((igetM img l gw gi gb n_).1.b)), (.int .u64 ((igetM img l gw gi gb n_).1.c)), (.int .u64 ((igetM img l gw gi gb n_).1.d)), (.int .u64 ((igetM img l gw gi gb n_).1.e)), (.int .u64 ((igetM img l gw gi gb n_).1.m))].toArray 78 (0, 0)), blk b54 (.cells [(.pointer none)].toArray 24 (0, 0)), blk b45 (.cells [(.pointer (some ⟨vb, 0, none⟩)), (.int .i64 gw), (.int .i64 gi), (.int .i64 gb), (.int .i64 n_)].toArray 85 (0, 0)), blk b7 (.cells [(.int .i64 gw), (.int .i64 gi), (.int .i64 gb)].toArray 23 (0, 0)), blk b4 (.cells [(.pointer (some ⟨vb, 0, none⟩))].toArray 30 (0, 0)), viewA (ptr vb) img l] := hs56
   have hs61 := St.f1 hs58
   refine ops_store (off := 0) (cs := [(.pointer none)]) (vs := [(.pointer (some ⟨b45, 0, none⟩))]) hs61 (by kernel_rfl) (by simp) rfl (fun w59 hs60 => ?_)
   have hs62 : St B w l0 w59 [blk b54 (.cells [(.pointer (some ⟨b45, 0, none⟩))].toArray 24 (0, 0)), blk b51 (.cells [(.int .u64 ((igetM img l gw gi gb n_).1.k)), (.int .u64 ((igetM img l gw gi gb n_).1.l)), (.int .u64 ((igetM img l gw gi gb n_).1.o)), (.int .u64 ((igetM img l gw gi gb n_).1.s)), (.int .u64 ((igetM img l gw gi gb n_).1.a)), (.int .u64 ((igetM img l gw gi gb n_).1.b)), (.int .u64 ((igetM img l gw gi gb n_).1.c)), (.int .u64 ((igetM img l gw gi gb n_).1.d)), (.int .u64 ((igetM img l gw gi gb n_).1.e)), (.int .u64 ((igetM img l gw gi gb n_).1.m))].toArray 78 (0, 0)), blk b45 (.cells [(.pointer (some ⟨vb, 0, none⟩)), (.int .i64 gw), (.int .i64 gi), (.int .i64 gb), (.int .i64 n_)].toArray 85 (0, 0)), blk b7 (.cells [(.int .i64 gw), (.int .i64 gi), (.int .i64 gb)].toArray 23 (0, 0)), blk b4 (.cells [(.pointer (some ⟨vb, 0, none⟩))].toArray 30 (0, 0)), viewA (ptr vb) img l] := hs60
   refine zE 1 (hK20 _ _ ?_)
   refine W.seq fun K63 hK63 => ?_
   refine W.block ?_
   refine W.sr fun K64 hK64 => ?_
   refine zE 3 (hK64 _ _ ?_)
   refine W.cond_false false (by kernel_rfl) rfl ?_
   refine W.seq_join (fun s_ w_ => ∃ (p65 : Bool), (∃ us, s_ = slots 85 [(2, (.int .i64 n_)), (3, (.int .u64 at_)), (4, (.string tx_)), (5, (.pointer (some ⟨b4, 0, none⟩))), (6, (.pointer (some ⟨b7, 0, none⟩))), (11, (.pointer (some ⟨b51, 0, none⟩))), (12, (.pointer (some ⟨b54, 0, none⟩))), (30, (.bool p65))] us) ∧ St B w l0 w_ [viewA (ptr vb) img l, blk b4 (.cells [(.pointer (some ⟨vb, 0, none⟩))].toArray 30 (0, 0)), blk b7 (.cells [(.int .i64 gw), (.int .i64 gi), (.int .i64 gb)].toArray 23 (0, 0)), blk b51 (.cells [(.int .u64 ((igetM img l gw gi gb n_).1.k)), (.int .u64 ((igetM img l gw gi gb n_).1.l)), (.int .u64 ((igetM img l gw gi gb n_).1.o)), (.int .u64 ((igetM img l gw gi gb n_).1.s)), (.int .u64 ((igetM img l gw gi gb n_).1.a)), (.int .u64 ((igetM img l gw gi gb n_).1.b)), (.int .u64 ((igetM img l gw gi gb n_).1.c)), (.int .u64 ((igetM img l gw gi gb n_).1.d)), (.int .u64 ((igetM img l gw gi gb n_).1.e)), (.int .u64 ((igetM img l gw gi gb n_).1.m))].toArray 78 (0, 0)), blk b45 (.cells [(.pointer (some ⟨vb, 0, none⟩)), (.int .i64 gw), (.int .i64 gi), (.int .i64 gb), (.int .i64 n_)].toArray 85 (0, 0)), blk b54 (.cells [(.pointer (some ⟨b45, 0, none⟩))].toArray 24 (0, 0))] ∧ dWrite_J1 img l gw gi gb n_ at_ tx_ p65 = some r) ?_ ?_
   ·
    rintro _ w66 ⟨p65, ⟨us, rfl⟩, hs67, hm⟩
    unfold dWrite_J1 at hm
    refine W.cond p65 (by kernel_rfl) (fun h68 => ?_) (fun h68 => ?_)
    ·
     have h68p : p65 = true := h68
     replace hm := ite_yes hm h68p
     refine W.sr fun K69 hK69 => ?_
     refine zE 1 (hK69 _ _ ?_)
     refine W.ret (ret_block (ret_seq ?_))
     obtain rfl := some_inj hm
     have hs70 := St.tk1 hs67
     refine ret_of (.int .i64 8) (by kernel_rfl) ⟨_, ⟨rfl, rfl⟩, hs70⟩
    ·
     have h68p : ¬ (p65 = true) := ne_true_of_eq_false h68
     replace hm := ite_no hm h68p
     refine W.sr fun K71 hK71 => ?_
     refine zE 3 (hK71 _ _ ?_)
     refine W.cond (tx_.toList == ByteArray.empty.toList) (by kernel_rfl) (fun h72 => ?_) (fun h72 => ?_)
     ·
      have h72p : (tx_.toList == ByteArray.empty.toList) = true := h72
      replace hm := ite_yes hm h72p
      refine W.sr fun K73 hK73 => ?_
      refine zE 1 (hK73 _ _ ?_)
      refine W.ret (ret_block (ret_seq ?_))
      obtain rfl := some_inj hm
      have hs74 := St.tk1 hs67
      refine ret_of (.int .i64 0) (by kernel_rfl) ⟨_, ⟨rfl, rfl⟩, hs74⟩
     ·
      have h72p : ¬ ((tx_.toList == ByteArray.empty.toList) = true) := ne_true_of_eq_false h72
      replace hm := ite_no hm h72p
      refine W.skip ?_
      refine normal_block ?_
      refine hK63 _ _ ?_
      refine W.sr fun K75 hK75 => ?_
      refine zR 1 ?_
      obtain ⟨h76, hm⟩ := need_some hm
      refine zI _ (wrap_i64 h76.1 h76.2) ?_
      refine zR 1 ?_
      refine ops_strBytesN (b := tx_) (e := 5) hs67 (by kernel_rfl) (fun b77 c78 C79 w80 hc81 hC82 hs83 => ?_)
      refine zN [(.int .i64 0)] 3 hs83 fun b86 w84 hs85 => ?_
      refine zN [(.slice none 0 0)] 51 hs85 fun b89 w87 hs88 => ?_
      have hs92 := St.f1 hs88
      refine ops_store (off := 0) (cs := [(.int .i64 0)]) (vs := [(.int .i64 at_)]) hs92 (by kernel_rfl) (by simp) rfl (fun w90 hs91 => ?_)
      have hs93 : St B w l0 w90 [blk b86 (.cells [(.int .i64 at_)].toArray 3 (0, 0)), blk b89 (.cells [(.slice none 0 0)].toArray 51 (0, 0)), blk b77 (.cells C79 5 (C79.size, C79.size + 1)), viewA (ptr vb) img l, blk b4 (.cells [(.pointer (some ⟨vb, 0, none⟩))].toArray 30 (0, 0)), blk b7 (.cells [(.int .i64 gw), (.int .i64 gi), (.int .i64 gb)].toArray 23 (0, 0)), blk b51 (.cells [(.int .u64 ((igetM img l gw gi gb n_).1.k)), (.int .u64 ((igetM img l gw gi gb n_).1.l)), (.int .u64 ((igetM img l gw gi gb n_).1.o)), (.int .u64 ((igetM img l gw gi gb n_).1.s)), (.int .u64 ((igetM img l gw gi gb n_).1.a)), (.int .u64 ((igetM img l gw gi gb n_).1.b)), (.int .u64 ((igetM img l gw gi gb n_).1.c)), (.int .u64 ((igetM img l gw gi gb n_).1.d)), (.int .u64 ((igetM img l gw gi gb n_).1.e)), (.int .u64 ((igetM img l gw gi gb n_).1.m))].toArray 78 (0, 0)), blk b45 (.cells [(.pointer (some ⟨vb, 0, none⟩)), (.int .i64 gw), (.int .i64 gi), (.int .i64 gb), (.int .i64 n_)].toArray 85 (0, 0)), blk b54 (.cells [(.pointer (some ⟨b45, 0, none⟩))].toArray 24 (0, 0))] := hs91
      have hs96 := St.f1 hs93
      refine ops_store (off := 0) (cs := [(.slice none 0 0)]) (vs := [(.slice (some ⟨b77, 0, none⟩) ((strNums tx_).length) c78)]) hs96 (by kernel_rfl) (by simp) rfl (fun w94 hs95 => ?_)
      have hs97 : St B w l0 w94 [blk b89 (.cells [(.slice (some ⟨b77, 0, none⟩) ((strNums tx_).length) c78)].toArray 51 (0, 0)), blk b86 (.cells [(.int .i64 at_)].toArray 3 (0, 0)), blk b77 (.cells C79 5 (C79.size, C79.size + 1)), viewA (ptr vb) img l, blk b4 (.cells [(.pointer (some ⟨vb, 0, none⟩))].toArray 30 (0, 0)), blk b7 (.cells [(.int .i64 gw), (.int .i64 gi), (.int .i64 gb)].toArray 23 (0, 0)), blk b51 (.cells [(.int .u64 ((igetM img l gw gi gb n_).1.k)), (.int .u64 ((igetM img l gw gi gb n_).1.l)), (.int .u64 ((igetM img l gw gi gb n_).1.o)), (.int .u64 ((igetM img l gw gi gb n_).1.s)), (.int .u64 ((igetM img l gw gi gb n_).1.a)), (.int .u64 ((igetM img l gw gi gb n_).1.b)), (.int .u64 ((igetM img l gw gi gb n_).1.c)), (.int .u64 ((igetM img l gw gi gb n_).1.d)), (.int .u64 ((igetM img l gw gi gb n_).1.e)), (.int .u64 ((igetM img l gw gi gb n_).1.m))].toArray 78 (0, 0)), blk b45 (.cells [(.pointer (some ⟨vb, 0, none⟩)), (.int .i64 gw), (.int .i64 gi), (.int .i64 gb), (.int .i64 n_)].toArray 85 (0, 0)), blk b54 (.cells [(.pointer (some ⟨b45, 0, none⟩))].toArray 24 (0, 0))] := hs95
      refine zD (hK75 _ _ ?_)
      refine W.seq fun K98 hK98 => ?_
      refine W.sr fun K99 hK99 => ?_
      refine zL ⟨b4, 0, none⟩ (.pointer (some ⟨vb, 0, none⟩)) (hs97.cellAt 4 rfl rfl) ?_
      refine ops_R (runs_loadAgg (ad := ⟨b7, 0, none⟩) (cs := [(.int .i64 gw), (.int .i64 gi), (.int .i64 gb)]) (by kernel_rfl) (cells_sub (hs97.heapAt 5 rfl) rfl)) ?_
      refine zR 1 ?_
      refine zL ⟨b54, 0, none⟩ (.pointer (some ⟨b45, 0, none⟩)) (hs97.cellAt 8 rfl rfl) ?_
      refine zL ⟨b86, 0, none⟩ (.int .i64 at_) (hs97.cellAt 1 rfl rfl) ?_
      refine zL ⟨b89, 0, none⟩ (.slice (some ⟨b77, 0, none⟩) ((strNums tx_).length) c78) (hs97.cellAt 0 rfl rfl) ?_
      refine zR 1 ?_
      obtain ⟨r100, h101, hm⟩ := bind_some hm
      have hs102 := St.f7 hs97
      have hs103 := St.f4 hs102
      refine zC22 hs103 (dready_walk (vb := vb) (mb := b45) (hG := hG) (hT := (hs97.oldCellsB hG hT)) (img := img) (l := l) (gw := gw) (gi := gi) (gb := gb) (n_ := n_) (fr_ := at_) (ma_ := (((strNums tx_).length) : Int)) (hm := h101) B _) fun w104 hs106 => ?_
      refine zE 1 (hK99 _ _ ?_)
      refine W.sr fun K107 hK107 => ?_
      refine zE 2 (hK107 _ _ ?_)
      refine W.cond (!decide (r100 = 0)) (by kernel_rfl) (fun h108 => ?_) (fun h108 => ?_)
      rotate_left
      ·
       have h108p : r100 = 0 := of_decide_eq_true (bnot_false h108)
       replace hm := ite_yes hm h108p
       refine W.skip ?_
       refine hK98 _ _ ?_
       refine W.sr fun K109 hK109 => ?_
       refine zL ⟨b86, 0, none⟩ (.int .i64 at_) (hs106.cellAt 3 rfl rfl) ?_
       refine zL ⟨b86, 0, none⟩ (.int .i64 at_) (hs106.cellAt 3 rfl rfl) ?_
       refine zL ⟨b89, 0, none⟩ (.slice (some ⟨b77, 0, none⟩) ((strNums tx_).length) c78) (hs106.cellAt 2 rfl rfl) ?_
       refine zR 1 ?_
       obtain ⟨h110, hm⟩ := need_some hm
       refine zI _ (wrap_i64 h110.1 h110.2) ?_
       refine zR 1 ?_
       obtain ⟨r111, h112, hm⟩ := bind_some hm
       have hs113 := St.f4 hs106
       have hs114 := St.f4 hs113
       have hs115 := St.f4 hs114
       have hs116 := St.f6 hs115
       have hs117 := St.f6 hs116
       have hs118 := St.f5 hs117
       have hs119 := St.f6 hs118
       have hs120 := St.f8 hs119
       refine ops_call8 hs120 (by kernel_rfl) (dwriteP_walk (mb := b45) (vb := vb) (mc := b54) (vc := b4) (gc := b7) (lc := b89) (fc := b86) (la := (some ⟨b77, 0, none⟩)) (lcc := c78) (A_ := blk b77 (.cells C79 5 (C79.size, C79.size + 1))) (hG := hG) (hT := (hs106.oldCellsB hG hT)) (hA := fun h_ => (bytes_at hC82 h_)) (hlc := hc81) (img := img) (l := l) (gw := gw) (gi := gi) (gb := gb) (n_ := n_) (f_ := at_) (to_ := (at_ + (((strNums tx_).length) : Int))) (fr_ := at_) (ls := (strNums tx_)) (hm := h112) B _) ?_
       rintro _ _ w121 ⟨rfl, rfl⟩ hs122
       have hs123 := St.ap8 hs122
       refine zE 1 (hK109 _ _ ?_)
       refine W.seq fun K124 hK124 => ?_
       refine W.sr fun K125 hK125 => ?_
       refine zR 1 ?_
       refine zL ⟨b89, 0, none⟩ (.slice (some ⟨b77, 0, none⟩) ((strNums tx_).length) c78) (hs123.cellAt 5 rfl rfl) ?_
       refine zR 1 ?_
       obtain ⟨h126, hm⟩ := need_some hm
       refine zI _ (wrap_u64 h126.1 (Int.lt_of_le_of_lt h126.2 (by decide))) ?_
       refine ops_val (v := .int .u64 (IntKind.u64.wrap (at_ + (((strNums tx_).length) : Int)))) (v' := .int .u64 ((at_ + (((strNums tx_).length) : Int)) % 18446744073709551616)) (by kernel_rfl) (congrArg (Value.int .u64) (wrap_u64_mod _)) ?_
       refine zR 1 ?_
       obtain ⟨r127, h128, hm⟩ := bind_some hm
       replace h128 := some_inj h128
       refine ops_set 17 (v := .int .u64 r127) (Eq.trans (by kernel_rfl) (congrArg (Value.int .u64) h128)) ?_
       refine zD (hK125 _ _ ?_)
       refine W.seq_join (fun s_ w_ => ∃ (p129 : Bool), (∃ us, s_ = slots 85 [(2, (.int .i64 n_)), (5, (.pointer (some ⟨b4, 0, none⟩))), (6, (.pointer (some ⟨b7, 0, none⟩))), (13, (.int .i64 r111.1)), (17, (.int .u64 r127)), (76, (.bool p129))] us) ∧ St B w l0 w_ [viewA (ptr vb) img r111.2, blk b4 (.cells [(.pointer (some ⟨vb, 0, none⟩))].toArray 30 (0, 0)), blk b7 (.cells [(.int .i64 gw), (.int .i64 gi), (.int .i64 gb)].toArray 23 (0, 0)), blk b45 (.cells [(.pointer (some ⟨vb, 0, none⟩)), (.int .i64 gw), (.int .i64 gi), (.int .i64 gb), (.int .i64 n_)].toArray 85 (0, 0)), blk b54 (.cells [(.pointer (some ⟨b45, 0, none⟩))].toArray 24 (0, 0)), blk b89 (.cells [(.slice (some ⟨b77, 0, none⟩) ((strNums tx_).length) c78)].toArray 51 (0, 0)), blk b86 (.cells [(.int .i64 at_)].toArray 3 (0, 0)), blk b77 (.cells C79 5 (C79.size, C79.size + 1)), blk b51 (.cells [(.int .u64 ((igetM img l gw gi gb n_).1.k)), (.int .u64 ((igetM img l gw gi gb n_).1.l)), (.int .u64 ((igetM img l gw gi gb n_).1.o)), (.int .u64 ((igetM img l gw gi gb n_).1.s)), (.int .u64 ((igetM img l gw gi gb n_).1.a)), (.int .u64 ((igetM img l gw gi gb n_).1.b)), (.int .u64 ((igetM img l gw gi gb n_).1.c)), (.int .u64 ((igetM img l gw gi gb n_).1.d)), (.int .u64 ((igetM img l gw gi gb n_).1.e)), (.int .u64 ((igetM img l gw gi gb n_).1.m))].toArray 78 (0, 0))] ∧ dWrite_J2 img gw gi gb n_ r111 r127 p129 = some r) ?_ ?_
       ·
        rintro _ w130 ⟨p129, ⟨us, rfl⟩, hs131, hm⟩
        unfold dWrite_J2 at hm
        refine W.cond p129 (by kernel_rfl) (fun h132 => ?_) (fun h132 => ?_)
        ·
         have h132p : p129 = true := h132
         replace hm := ite_yes hm h132p
         have hs133 := hs131.drew
         have hs134 := St.f8 hs133
         have hs135 := St.f8 hs134
         have hs136 := St.f8 hs135
         have hs137 := St.f8 hs136
         have hs138 := St.f8 hs137
         have hs139 := St.f8 hs138
         have hs140 := St.f8 hs139
         have hs141 := St.f8 hs140
         have hs142 := St.tk8 hs141
         refine W.regionD [(0, 0), (0, 0), (0, 0), (6, 6), (8, 8), (0, 0), (57, 49), (127, 64)] (fun w_ => St B w l0 w_ [blk b4 (.cells [(.pointer (some ⟨vb, 0, none⟩))].toArray 30 (0, 0)), blk b7 (.cells [(.int .i64 gw), (.int .i64 gi), (.int .i64 gb)].toArray 23 (0, 0)), blk b45 (.cells [(.pointer (some ⟨vb, 0, none⟩)), (.int .i64 gw), (.int .i64 gi), (.int .i64 gb), (.int .i64 n_)].toArray 85 (0, 0)), blk b54 (.cells [(.pointer (some ⟨b45, 0, none⟩))].toArray 24 (0, 0)), blk b89 (.cells [(.slice (some ⟨b77, 0, none⟩) ((strNums tx_).length) c78)].toArray 51 (0, 0)), blk b86 (.cells [(.int .i64 at_)].toArray 3 (0, 0)), blk b77 (.cells C79 5 (C79.size, C79.size + 1)), blk b51 (.cells [(.int .u64 ((igetM img l gw gi gb n_).1.k)), (.int .u64 ((igetM img l gw gi gb n_).1.l)), (.int .u64 ((igetM img l gw gi gb n_).1.o)), (.int .u64 ((igetM img l gw gi gb n_).1.s)), (.int .u64 ((igetM img l gw gi gb n_).1.a)), (.int .u64 ((igetM img l gw gi gb n_).1.b)), (.int .u64 ((igetM img l gw gi gb n_).1.c)), (.int .u64 ((igetM img l gw gi gb n_).1.d)), (.int .u64 ((igetM img l gw gi gb n_).1.e)), (.int .u64 ((igetM img l gw gi gb n_).1.m))].toArray 78 (0, 0))]) (by kernel_rfl) hs142 ?_
         refine any_R 0 (by kernel_rfl) (fun _ hS_ => runs_load (ad := ⟨b4, 0, none⟩) (v := (.pointer (some ⟨vb, 0, none⟩))) (by kernel_rfl) (hS_.cellAt 0 rfl rfl)) hs142 ?_
         refine any_R 1 (by kernel_rfl) (fun _ hS_ => runs_loadAgg (ad := ⟨b7, 0, none⟩) (cs := [(.int .i64 gw), (.int .i64 gi), (.int .i64 gb)]) (by kernel_rfl) (cells_sub (hS_.heapAt 1 rfl) rfl)) hs142 ?_
         refine any_val (v := (.int .i64 n_)) (v' := (.int .i64 n_)) 2 (by kernel_rfl) (fun _ => by kernel_rfl) rfl hs142 ?_
         refine any_val (v := (.int .u64 r127)) (v' := (.int .u64 r127)) 5 (by kernel_rfl) (fun _ => by kernel_rfl) rfl hs142 ?_
         refine any_step 3 (by kernel_rfl) (by kernel_rfl) ?_
         obtain ⟨r143, h144, hm⟩ := bind_some hm
         replace h144 := some_inj h144
         refine ops_call0 hs133 (by kernel_rfl) (inodeat_spec (gw := gw) (gi := gi) (gb := gb) (n_ := n_) B _) ?_
         rintro _ _ w145 ⟨hv147, hH148⟩ hs146
         rw [h144] at hv147
         try rw [h144] at hH148
         subst hv147 hH148
         have hs149 := St.ap0 hs146
         have hs150 := St.f8 hs149
         have hs151 := St.f8 hs150
         have hs152 := St.f8 hs151
         have hs153 := St.f8 hs152
         have hs154 := St.f8 hs153
         have hs155 := St.f8 hs154
         have hs156 := St.f8 hs155
         have hs157 := St.f8 hs156
         have hs158 := St.tk8 hs157
         refine ops_done (by kernel_rfl) ⟨hs158, ?_⟩
         obtain ⟨h159, hm⟩ := need_some hm
         refine any_val (v := .int .i64 (IntKind.i64.wrap (r143 + 3))) (v' := .int .i64 (r143 + 3)) 4 (by kernel_rfl) (fun _ => by kernel_rfl) (congrArg (Value.int .i64) (wrap_i64 h159.1 h159.2)) hs158 ?_
         refine any_step 6 (by kernel_rfl) (by kernel_rfl) ?_
         refine zC11 hs149 (sset_spec (b := vb) (img := img) (l := r111.2) (at_ := (r143 + 3)) (x_ := r127) B _) fun w160 hs162 => ?_
         have hs163 := St.f8 hs162
         have hs164 := St.f8 hs163
         have hs165 := St.f8 hs164
         have hs166 := St.f8 hs165
         have hs167 := St.f8 hs166
         have hs168 := St.f8 hs167
         have hs169 := St.f8 hs168
         have hs170 := St.f8 hs169
         have hs171 := St.tk8 hs170
         refine ops_done (by kernel_rfl) ⟨hs171, ?_⟩
         refine any_val (v := (.int .i64 ((vwrite img r111.2 (r143 + 3) r127).1))) (v' := (.int .i64 ((vwrite img r111.2 (r143 + 3) r127).1))) 7 (by kernel_rfl) (fun _ => by kernel_rfl) rfl hs171 ?_
         refine any_done (by kernel_rfl) ?_
         refine hK124 _ _ ?_
         refine W.sr fun K172 hK172 => ?_
         refine zR 2 ?_
         obtain ⟨r173, h174, hm⟩ := bind_some hm
         replace h174 := some_inj h174
         refine ops_set 10 (v := .int .i64 r173) (Eq.trans (by kernel_rfl) (congrArg (Value.int .i64) h174)) ?_
         refine zD (hK172 _ _ ?_)
         refine W.ret ?_
         obtain rfl := some_inj hm
         have hs175 := St.tk1 hs162
         refine ret_of (.int .i64 r173) (by kernel_rfl) ⟨_, ⟨rfl, rfl⟩, hs175⟩
        ·
         have h132p : ¬ (p129 = true) := ne_true_of_eq_false h132
         replace hm := ite_no hm h132p
         refine W.skip ?_
         refine hK124 _ _ ?_
         refine W.sr fun K176 hK176 => ?_
         refine zE 2 (hK176 _ _ ?_)
         refine W.ret ?_
         obtain rfl := some_inj hm
         have hs177 := St.tk1 hs131
         refine ret_of (.int .i64 r111.1) (by kernel_rfl) ⟨_, ⟨rfl, rfl⟩, hs177⟩
       ·
        refine W.region ?_
        refine zR 3 ?_
        rcases Bool.eq_false_or_eq_true (decide (r111.1 = 0)) with h178 | h178
        ·
         obtain ⟨h178p, hm⟩ := iY hm h178
         refine zS 71 h178 ?_
         refine zS 70 h178 ?_
         refine zR 2 ?_
         refine zL ⟨b51, 3, none⟩ (.int .u64 ((igetM img l gw gi gb n_).1.s)) (hs123.cellAt 8 rfl rfl) ?_
         refine zE 2 ?_
         have hs179 := St.f8 hs123
         have hs180 := St.f8 hs179
         have hs181 := St.f8 hs180
         have hs182 := St.f8 hs181
         have hs183 := St.f4 hs182
         have hs184 := St.f5 hs183
         have hs185 := St.f8 hs184
         have hs186 := St.f8 hs185
         have hs187 := St.f8 hs186
         exact ⟨(decide (r127 > (igetM img l gw gi gb n_).1.s)), slots_intro _ (by kernel_rfl), hs187, hm⟩
        ·
         obtain ⟨h178p, hm⟩ := iN hm h178
         refine zS 71 h178 ?_
         refine zS 70 h178 ?_
         refine zE 5 ?_
         have hs188 := St.f8 hs123
         have hs189 := St.f8 hs188
         have hs190 := St.f8 hs189
         have hs191 := St.f8 hs190
         have hs192 := St.f4 hs191
         have hs193 := St.f5 hs192
         have hs194 := St.f8 hs193
         have hs195 := St.f8 hs194
         have hs196 := St.f8 hs195
         exact ⟨false, slots_intro _ (by kernel_rfl), hs196, hm⟩
      ·
       have h108p : ¬ (r100 = 0) := of_decide_eq_false (bnot_true h108)
       replace hm := ite_no hm h108p
       refine W.sr fun K197 hK197 => ?_
       refine zE 2 (hK197 _ _ ?_)
       refine W.ret (ret_seq ?_)
       obtain rfl := some_inj hm
       have hs198 := St.tk1 hs106
       refine ret_of (.int .i64 r100) (by kernel_rfl) ⟨_, ⟨rfl, rfl⟩, hs198⟩
   ·
    refine W.sr fun K199 hK199 => ?_
    refine zE 3 (hK199 _ _ ?_)
    refine W.cond (decide (at_ > 768)) (by kernel_rfl) (fun h200 => ?_) (fun h200 => ?_)
    ·
     obtain ⟨h200p, hm⟩ := iY hm h200
     refine W.skip ?_
     have hs201 := St.f2 hs62
     have hs202 := St.f2 hs201
     have hs203 := St.f3 hs202
     have hs204 := St.f4 hs203
     have hs205 := St.f5 hs204
     exact ⟨(decide (at_ > 768)), slots_intro _ (by kernel_rfl), hs205, hm⟩
    ·
     obtain ⟨h200p, hm⟩ := iN hm h200
     refine W.region ?_
     refine zR 3 ?_
     obtain ⟨h206, hm⟩ := need_some hm
     refine zI _ (wrap_i64 h206.1 h206.2) ?_
     obtain ⟨h207, hm⟩ := need_some hm
     refine zI _ (wrap_i64 h207.1 h207.2) ?_
     refine zE 2 ?_
     have hs208 := St.f2 hs62
     have hs209 := St.f2 hs208
     have hs210 := St.f3 hs209
     have hs211 := St.f4 hs210
     have hs212 := St.f5 hs211
     exact ⟨(decide ((tx_.size : Int) > (768 - at_))), slots_intro _ (by kernel_rfl), hs212, hm⟩
 ·
  obtain ⟨h21p, hm⟩ := iN hm h21
  refine zC00 hs6 (dfile_err (gw := gw) (gi := gi) (gb := gb) (n_ := n_) (hv := (hs6.entAt 2 rfl viewA_at)) (hN := h21p) B _) fun w213 hs215 => ?_
  refine zR 4 ?_
  refine zN [(.int .u64 0), (.int .u64 0), (.int .u64 0), (.int .u64 0), (.int .u64 0), (.int .u64 0), (.int .u64 0), (.int .u64 0), (.int .u64 0), (.int .u64 0)] 78 hs215 fun b218 w216 hs217 => ?_
  refine zN [(.pointer none)] 24 hs217 fun b221 w219 hs220 => ?_
  have hs224 := St.f1 hs220
  refine ops_store (off := 0) (cs := [(.int .u64 0), (.int .u64 0), (.int .u64 0), (.int .u64 0), (.int .u64 0), (.int .u64 0), (.int .u64 0), (.int .u64 0), (.int .u64 0), (.int .u64 0)]) (vs := [(.int .u64 0), (.int .u64 0), (.int .u64 0), (.int .u64 0), (.int .u64 0), (.int .u64 0), (.int .u64 0), (.int .u64 0), (.int .u64 0), (.int .u64 0)]) hs224 (by kernel_rfl) (by simp) rfl (fun w222 hs223 => ?_)
  have hs225 : St B w l0 w222 [blk b218 (.cells [(.int .u64 0), (.int .u64 0), (.int .u64 0), (.int .u64 0), (.int .u64 0), (.int .u64 0), (.int .u64 0), (.int .u64 0), (.int .u64 0), (.int .u64 0)].toArray 78 (0, 0)), blk b221 (.cells [(.pointer none)].toArray 24 (0, 0)), blk b7 (.cells [(.int .i64 gw), (.int .i64 gi), (.int .i64 gb)].toArray 23 (0, 0)), blk b4 (.cells [(.pointer (some ⟨vb, 0, none⟩))].toArray 30 (0, 0)), viewA (ptr vb) img l] := hs223
  have hs228 := St.f1 hs225
  refine ops_store (off := 0) (cs := [(.pointer none)]) (vs := [(.pointer none)]) hs228 (by kernel_rfl) (by simp) rfl (fun w226 hs227 => ?_)
  have hs229 : St B w l0 w226 [blk b221 (.cells [(.pointer none)].toArray 24 (0, 0)), blk b218 (.cells [(.int .u64 0), (.int .u64 0), (.int .u64 0), (.int .u64 0), (.int .u64 0), (.int .u64 0), (.int .u64 0), (.int .u64 0), (.int .u64 0), (.int .u64 0)].toArray 78 (0, 0)), blk b7 (.cells [(.int .i64 gw), (.int .i64 gi), (.int .i64 gb)].toArray 23 (0, 0)), blk b4 (.cells [(.pointer (some ⟨vb, 0, none⟩))].toArray 30 (0, 0)), viewA (ptr vb) img l] := hs227
  refine zR 1 ?_
  obtain ⟨r230, h231, hm⟩ := bind_some hm
  replace h231 := some_inj h231
  refine ops_set 13 (v := .int .i64 r230) (Eq.trans (by kernel_rfl) (congrArg (Value.int .i64) h231)) ?_
  refine zD (hK20 _ _ ?_)
  refine W.seq fun K232 hK232 => ?_
  refine W.block ?_
  refine W.sr fun K233 hK233 => ?_
  refine zE 3 (hK233 _ _ ?_)
  refine W.cond (!decide (r230 = 0)) (by kernel_rfl) (fun h234 => ?_) (fun h234 => ?_)
  rotate_left
  ·
   have h234p : r230 = 0 := of_decide_eq_true (bnot_false h234)
   exact absurd h234p (fun e_ => h21p (h231.trans e_))
  ·
   have h234p : ¬ (r230 = 0) := of_decide_eq_false (bnot_true h234)
   replace hm := ite_no hm h234p
   refine W.sr fun K235 hK235 => ?_
   refine zE 2 (hK235 _ _ ?_)
   refine W.ret (ret_block (ret_seq ?_))
   obtain rfl := some_inj hm
   have hs236 := St.f4 hs229
   have hs237 := St.tk1 hs236
   refine ret_of (.int .i64 r230) (by kernel_rfl) ⟨_, ⟨rfl, rfl⟩, hs237⟩

end Go.Proofs.YtmmclabkkigiaaaDoor

set_option linter.unusedVariables false
set_option maxRecDepth 20000
set_option maxHeartbeats 8000000
namespace Go.Proofs.YtmmclabkkigiaaaDoor
open Go Go.RowKit
set_option linter.unusedSimpArgs false
set_option linter.unusedVariables false

def dshrink_M (img : List Int) (l : List (Int × Int)) (gw : Int) (gi : Int) (gb : Int) (n_ : Int) (sz_ : Int) : Option (Int × List (Int × Int)) :=
 need (-9223372036854775808 ≤ (sz_ + 64) ∧ (sz_ + 64) ≤ 9223372036854775807) <|
need (-9223372036854775808 ≤ ((sz_ + 64) - 1) ∧ ((sz_ + 64) - 1) ≤ 9223372036854775807) <|
need (0 ≤ ((sz_ + 64) - 1)) <|
need (-9223372036854775808 ≤ (((sz_ + 64) - 1) / 64) ∧ (((sz_ + 64) - 1) / 64) ≤ 9223372036854775807) <|
(bCut_M img l gw gi gb n_ (((sz_ + 64) - 1) / 64)).bind fun r11 =>
if r11.1 = 0 then (need (0 ≤ sz_) <|
if (sz_ % 64) = 0 then (some (0, r11.2)) else (need (0 ≤ sz_) <|
need (-9223372036854775808 ≤ (sz_ / 64) ∧ (sz_ / 64) ≤ 9223372036854775807) <|
(bat_M img r11.2 gw gi gb n_ (sz_ / 64)).bind fun r31 =>
if r31.2 = 0 then (if r31.1 = 0 then (some (r31.2, r11.2)) else (need (-9223372036854775808 ≤ (64 - (sz_ % 64)) ∧ (64 - (sz_ % 64)) ≤ 9223372036854775807) <|
need ((64 - (sz_ % 64)) ≤ 1000000000) <|
(dput_M img r11.2 (placeOf 9 gw gi gb r31.1) (sz_ % 64) (List.replicate ((64 - (sz_ % 64)).toNat) (0 : Int))).bind fun r62 =>
some (r62.1, r62.2))) else (some (r31.2, r11.2)))) else (some (r11.1, r11.2))

theorem dshrink_walk {img : List Int} {l : List (Int × Int)} {gw : Int} {gi : Int} {gb : Int} {n_ : Int} {sz_ : Int} {vb mb : Nat} {r : Int × List (Int × Int)} (B : Nat) (w : World) (hm : dshrink_M img l gw gi gb n_ sz_ = some r) : Spec Tryd.prog 73 #[(.pointer (some ⟨vb, 0, none⟩)), (.agg #[(.int .i64 gw), (.int .i64 gi), (.int .i64 gb)]), (.pointer (some ⟨mb, 0, none⟩)), (.int .i64 sz_)] B w [viewA (ptr vb) img l, blk mb (.cells [(.pointer (some ⟨vb, 0, none⟩)), (.int .i64 gw), (.int .i64 gi), (.int .i64 gb), (.int .i64 n_)].toArray 85 (0, 0))] (fun v H' => v = .int .i64 r.1 ∧ H' = [viewA (ptr vb) img r.2, blk mb (.cells [(.pointer (some ⟨vb, 0, none⟩)), (.int .i64 gw), (.int .i64 gi), (.int .i64 gb), (.int .i64 n_)].toArray 85 (0, 0))]) := by
 refine spec_W Tryd.func73 rfl fun l0 hs => ?_
 unfold dshrink_M at hm
 refine W.sr fun K1 hK1 => ?_
 refine zN [(.int .i64 gw), (.int .i64 gi), (.int .i64 gb)] 23 hs fun b4 w2 hs3 => ?_
 refine zE 1 (hK1 _ _ ?_)
 refine W.seq fun K5 hK5 => ?_
 refine W.sr fun K6 hK6 => ?_
 refine zR 2 ?_
 obtain ⟨h7, hm⟩ := need_some hm
 refine zI _ (wrap_i64 h7.1 h7.2) ?_
 obtain ⟨h8, hm⟩ := need_some hm
 refine zI _ (wrap_i64 h8.1 h8.2) ?_
 obtain ⟨h9, hm⟩ := need_some hm
 obtain ⟨h10, hm⟩ := need_some hm
 refine ops_R (v := .int .i64 (((sz_ + 64) - 1) / 64)) (runs_quo (k := .i64) (a := ((sz_ + 64) - 1)) (b := 64) (by kernel_rfl) (by decide) ((congrArg IntKind.i64.wrap (Int.tdiv_eq_ediv_of_nonneg h9)).trans (wrap_i64 h10.1 h10.2))) ?_
 obtain ⟨r11, h12, hm⟩ := bind_some hm
 have hs13 := St.f1 hs3
 have hs14 := St.f2 hs13
 refine zC22 hs14 (bCut_walk (mb := mb) (vb := vb) (f_ := (((sz_ + 64) - 1) / 64)) (img := img) (l := l) (gw := gw) (gi := gi) (gb := gb) (n_ := n_) (hm := h12) B _) fun w15 hs17 => ?_
 refine zE 1 (hK6 _ _ ?_)
 refine W.sr fun K18 hK18 => ?_
 refine zE 2 (hK18 _ _ ?_)
 refine W.cond (!decide (r11.1 = 0)) (by kernel_rfl) (fun h19 => ?_) (fun h19 => ?_)
 rotate_left
 ·
  have h19p : r11.1 = 0 := of_decide_eq_true (bnot_false h19)
  replace hm := ite_yes hm h19p
  refine W.skip ?_
  refine hK5 _ _ ?_
  refine W.sr fun K20 hK20 => ?_
  refine zR 1 ?_
  obtain ⟨h21, hm⟩ := need_some hm
  refine ops_R (v := .int .i64 (sz_ % 64)) (runs_rem (k := .i64) (a := sz_) (b := 64) (by kernel_rfl) (by decide) (Int.tmod_eq_emod_of_nonneg h21)) ?_
  refine zE 1 (hK20 _ _ ?_)
  refine W.seq fun K22 hK22 => ?_
  refine W.sr fun K23 hK23 => ?_
  refine zE 2 (hK23 _ _ ?_)
  refine W.cond (decide ((sz_ % 64) = 0)) (by kernel_rfl) (fun h24 => ?_) (fun h24 => ?_)
  ·
   obtain ⟨h24p, hm⟩ := iY hm h24
   refine W.sr fun K25 hK25 => ?_
   refine zE 1 (hK25 _ _ ?_)
   refine W.ret (ret_seq ?_)
   obtain rfl := some_inj hm
   have hs26 := St.f1 hs17
   have hs27 := St.tk2 hs26
   refine ret_of (.int .i64 0) (by kernel_rfl) ⟨_, ⟨rfl, rfl⟩, hs27⟩
  ·
   obtain ⟨h24p, hm⟩ := iN hm h24
   refine W.skip ?_
   refine hK22 _ _ ?_
   refine W.sr fun K28 hK28 => ?_
   refine zR 2 ?_
   obtain ⟨h29, hm⟩ := need_some hm
   obtain ⟨h30, hm⟩ := need_some hm
   refine ops_R (v := .int .i64 (sz_ / 64)) (runs_quo (k := .i64) (a := sz_) (b := 64) (by kernel_rfl) (by decide) ((congrArg IntKind.i64.wrap (Int.tdiv_eq_ediv_of_nonneg h29)).trans (wrap_i64 h30.1 h30.2))) ?_
   obtain ⟨r31, h32, hm⟩ := bind_some hm
   refine zC00 hs17 (bat_walk (k_ := (sz_ / 64)) (img := img) (l := r11.2) (gw := gw) (gi := gi) (gb := gb) (n_ := n_) (hmb := (hs17.heapAt 0 rfl)) (hv := (hs17.entAt 1 rfl viewA_at)) (hm := h32) B _) fun w33 hs35 => ?_
   refine zE 5 (hK28 _ _ ?_)
   refine W.seq fun K36 hK36 => ?_
   refine W.sr fun K37 hK37 => ?_
   refine zR 3 ?_
   rcases Bool.eq_false_or_eq_true (!decide (r31.2 = 0)) with h38 | h38
   rotate_left
   ·
    have h38p : r31.2 = 0 := of_decide_eq_true (bnot_false h38)
    replace hm := ite_yes hm h38p
    refine zS 35 h38 ?_
    refine zS 34 h38 ?_
    refine zE 3 (hK37 _ _ ?_)
    refine W.cond (decide (r31.1 = 0)) (by kernel_rfl) (fun h39 => ?_) (fun h39 => ?_)
    ·
     obtain ⟨h39p, hm⟩ := iY hm h39
     refine W.sr fun K40 hK40 => ?_
     refine zE 2 (hK40 _ _ ?_)
     refine W.ret (ret_seq ?_)
     obtain rfl := some_inj hm
     have hs41 := St.f1 hs35
     have hs42 := St.tk2 hs41
     refine ret_of (.int .i64 r31.2) (by kernel_rfl) ⟨_, ⟨rfl, rfl⟩, hs42⟩
    ·
     obtain ⟨h39p, hm⟩ := iN hm h39
     refine W.skip ?_
     refine hK36 _ _ ?_
     refine W.seq fun K43 hK43 => ?_
     have hs44 := hs35.drew
     have hs45 := St.f2 hs44
     have hs46 := St.f1 hs45
     have hs47 := St.tk2 hs46
     refine W.regionD [(0, 0), (0, 0), (0, 0), (6, 6), (0, 0), (0, 0), (32, 32), (64, 64), (153, 153), (511, 256)] (fun w_ => St B w l0 w_ [blk mb (.cells [(.pointer (some ⟨vb, 0, none⟩)), (.int .i64 gw), (.int .i64 gi), (.int .i64 gb), (.int .i64 n_)].toArray 85 (0, 0)), blk b4 (.cells [(.int .i64 gw), (.int .i64 gi), (.int .i64 gb)].toArray 23 (0, 0))]) (by kernel_rfl) hs47 ?_
     refine any_val (v := (.pointer (some ⟨vb, 0, none⟩))) (v' := (.pointer (some ⟨vb, 0, none⟩))) 0 (by kernel_rfl) (fun _ => by kernel_rfl) rfl hs47 ?_
     refine any_R 1 (by kernel_rfl) (fun _ hS_ => runs_loadAgg (ad := ⟨b4, 0, none⟩) (cs := [(.int .i64 gw), (.int .i64 gi), (.int .i64 gb)]) (by kernel_rfl) (cells_sub (hS_.heapAt 1 rfl) rfl)) hs47 ?_
     refine any_val (v := (.int .i64 r31.1)) (v' := (.int .i64 r31.1)) 2 (by kernel_rfl) (fun _ => by kernel_rfl) rfl hs47 ?_
     refine any_val (v := (.int .i64 (sz_ % 64))) (v' := (.int .i64 (sz_ % 64))) 4 (by kernel_rfl) (fun _ => by kernel_rfl) rfl hs47 ?_
     refine any_val (v := (.int .i64 (sz_ % 64))) (v' := (.int .i64 (sz_ % 64))) 5 (by kernel_rfl) (fun _ => by kernel_rfl) rfl hs47 ?_
     obtain ⟨h48, hm⟩ := need_some hm
     refine any_val (v := .int .i64 (IntKind.i64.wrap (64 - (sz_ % 64)))) (v' := .int .i64 (64 - (sz_ % 64))) 6 (by kernel_rfl) (fun _ => by kernel_rfl) (congrArg (Value.int .i64) (wrap_i64 h48.1 h48.2)) hs47 ?_
     refine any_step2 3 7 (by kernel_rfl) (by kernel_rfl) (by kernel_rfl) ?_ ?_
     ·
      refine zC00 hs44 (blockat_spec (gw := gw) (gi := gi) (gb := gb) (n_ := r31.1) B _) fun w49 hs51 => ?_
      have hs52 := St.f2 hs51
      have hs53 := St.f1 hs52
      have hs54 := St.tk2 hs53
      refine ops_done (by kernel_rfl) ⟨hs54, ?_⟩
      refine any_step 7 (by kernel_rfl) (by kernel_rfl) ?_
      obtain ⟨h58, hm⟩ := need_some hm
      refine ops_makeSlice kU8 0 (z := (64 - (sz_ % 64))) (bytes := 1) ((64 - (sz_ % 64)).toNat) (nat_of (by omega)) hs51 (by kernel_rfl) (by omega) (by unfold maxLen; omega) (fun b55 w56 hs57 => ?_)
      have hs59 := St.f3 hs57
      have hs60 := St.f2 hs59
      have hs61 := St.tk2 hs60
      refine ops_done (by kernel_rfl) ⟨hs61, ?_⟩
      refine any_step 8 (by kernel_rfl) (by kernel_rfl) ?_
      obtain ⟨r62, h63, hm⟩ := bind_some hm
      have hs64 := St.f2 hs57
      refine zC22 hs64 (dput_walk (vb := vb) (A_ := kU8.row (some ⟨b55, 0, none⟩) ((64 - (sz_ % 64)).toNat) (List.replicate ((64 - (sz_ % 64)).toNat) (0 : Int))) (ba := (some ⟨b55, 0, none⟩)) (bc := (64 - (sz_ % 64)).toNat) (img := img) (l := r11.2) (at_ := (placeOf 9 gw gi gb r31.1)) (f_ := (sz_ % 64)) (bs := (List.replicate ((64 - (sz_ % 64)).toNat) (0 : Int))) (hA := fun h_ => (row_at h_)) (hbn := (List.length_replicate ..).symm) (hm := h63) B _) fun w65 hs67 => ?_
      have hs68 := St.f3 hs67
      have hs69 := St.f3 hs68
      have hs70 := St.tk2 hs69
      refine ops_done (by kernel_rfl) ⟨hs70, ?_⟩
      refine any_val (v := (.int .i64 r62.1)) (v' := (.int .i64 r62.1)) 9 (by kernel_rfl) (fun _ => by kernel_rfl) rfl hs70 ?_
      refine any_done (by kernel_rfl) ?_
      refine hK43 _ _ ?_
      refine W.ret ?_
      obtain rfl := some_inj hm
      have hs71 := St.f2 hs67
      have hs72 := St.f1 hs71
      have hs73 := St.tk2 hs72
      refine ret_of (.int .i64 r62.1) (by kernel_rfl) ⟨_, ⟨rfl, rfl⟩, hs73⟩
     ·
      obtain ⟨h77, hm⟩ := need_some hm
      refine ops_makeSlice kU8 0 (z := (64 - (sz_ % 64))) (bytes := 1) ((64 - (sz_ % 64)).toNat) (nat_of (by omega)) hs44 (by kernel_rfl) (by omega) (by unfold maxLen; omega) (fun b74 w75 hs76 => ?_)
      have hs78 := St.f3 hs76
      have hs79 := St.f2 hs78
      have hs80 := St.tk2 hs79
      refine ops_done (by kernel_rfl) ⟨hs80, ?_⟩
      refine any_step 3 (by kernel_rfl) (by kernel_rfl) ?_
      refine zC00 hs76 (blockat_spec (gw := gw) (gi := gi) (gb := gb) (n_ := r31.1) B _) fun w81 hs83 => ?_
      have hs84 := St.f3 hs83
      have hs85 := St.f2 hs84
      have hs86 := St.tk2 hs85
      refine ops_done (by kernel_rfl) ⟨hs86, ?_⟩
      refine any_step 8 (by kernel_rfl) (by kernel_rfl) ?_
      obtain ⟨r87, h88, hm⟩ := bind_some hm
      have hs89 := St.f2 hs83
      refine zC22 hs89 (dput_walk (vb := vb) (A_ := kU8.row (some ⟨b74, 0, none⟩) ((64 - (sz_ % 64)).toNat) (List.replicate ((64 - (sz_ % 64)).toNat) (0 : Int))) (ba := (some ⟨b74, 0, none⟩)) (bc := (64 - (sz_ % 64)).toNat) (img := img) (l := r11.2) (at_ := (placeOf 9 gw gi gb r31.1)) (f_ := (sz_ % 64)) (bs := (List.replicate ((64 - (sz_ % 64)).toNat) (0 : Int))) (hA := fun h_ => (row_at h_)) (hbn := (List.length_replicate ..).symm) (hm := h88) B _) fun w90 hs92 => ?_
      have hs93 := St.f3 hs92
      have hs94 := St.f3 hs93
      have hs95 := St.tk2 hs94
      refine ops_done (by kernel_rfl) ⟨hs95, ?_⟩
      refine any_val (v := (.int .i64 r87.1)) (v' := (.int .i64 r87.1)) 9 (by kernel_rfl) (fun _ => by kernel_rfl) rfl hs95 ?_
      refine any_done (by kernel_rfl) ?_
      refine hK43 _ _ ?_
      refine W.ret ?_
      obtain rfl := some_inj hm
      have hs96 := St.f2 hs92
      have hs97 := St.f1 hs96
      have hs98 := St.tk2 hs97
      refine ret_of (.int .i64 r87.1) (by kernel_rfl) ⟨_, ⟨rfl, rfl⟩, hs98⟩
   ·
    have h38p : ¬ (r31.2 = 0) := of_decide_eq_false (bnot_true h38)
    replace hm := ite_no hm h38p
    refine zS 35 h38 ?_
    refine zS 34 h38 ?_
    refine zE 3 (hK37 _ _ ?_)
    refine W.cond_true true (by kernel_rfl) rfl ?_
    refine W.sr fun K99 hK99 => ?_
    refine zE 2 (hK99 _ _ ?_)
    refine W.ret (ret_seq ?_)
    obtain rfl := some_inj hm
    have hs100 := St.f1 hs35
    have hs101 := St.tk2 hs100
    refine ret_of (.int .i64 r31.2) (by kernel_rfl) ⟨_, ⟨rfl, rfl⟩, hs101⟩
 ·
  have h19p : ¬ (r11.1 = 0) := of_decide_eq_false (bnot_true h19)
  replace hm := ite_no hm h19p
  refine W.sr fun K102 hK102 => ?_
  refine zE 2 (hK102 _ _ ?_)
  refine W.ret (ret_seq ?_)
  obtain rfl := some_inj hm
  have hs103 := St.f1 hs17
  have hs104 := St.tk2 hs103
  refine ret_of (.int .i64 r11.1) (by kernel_rfl) ⟨_, ⟨rfl, rfl⟩, hs104⟩

end Go.Proofs.YtmmclabkkigiaaaDoor

set_option linter.unusedVariables false
set_option maxRecDepth 20000
set_option maxHeartbeats 8000000
namespace Go.Proofs.YtmmclabkkigiaaaDoor
open Go Go.RowKit
set_option linter.unusedSimpArgs false
set_option linter.unusedVariables false

def dResize_J1 (img : List Int) (gw : Int) (gi : Int) (gb : Int) (n_ : Int) (sz_ : Int) (l50 : List (Int × Int)) : Option (Int × List (Int × Int)) :=
 (some (placeOf 8 gw gi gb n_)).bind fun r54 =>
need (-9223372036854775808 ≤ (r54 + 3) ∧ (r54 + 3) ≤ 9223372036854775807) <|
(some ((vwrite img l50 (r54 + 3) sz_).1)).bind fun r65 =>
some (r65, (vwrite img l50 (r54 + 3) sz_).2)

def dResize_M (img : List Int) (l : List (Int × Int)) (gw : Int) (gi : Int) (gb : Int) (n_ : Int) (sz_ : Int) : Option (Int × List (Int × Int)) :=
 if (igetM img l gw gi gb n_).2 = 0 then (if (igetM img l gw gi gb n_).1.k = 2 then (some (11, l)) else (if sz_ > 768 then (some (8, l)) else (if sz_ < (igetM img l gw gi gb n_).1.s then (need (-9223372036854775808 ≤ sz_ ∧ sz_ ≤ 9223372036854775807) <|
(dshrink_M img l gw gi gb n_ sz_).bind fun r72 =>
if r72.1 = 0 then (dResize_J1 img gw gi gb n_ sz_ r72.2) else (some (r72.1, r72.2))) else (dResize_J1 img gw gi gb n_ sz_ l)))) else ((some ((igetM img l gw gi gb n_).2)).bind fun r100 =>
if r100 = 0 then (none) else (some (r100, l)))

theorem dResize_walk {img : List Int} {l : List (Int × Int)} {gw : Int} {gi : Int} {gb : Int} {n_ : Int} {sz_ : Int} {vb : Nat} {r : Int × List (Int × Int)} (B : Nat) (w : World) (hm : dResize_M img l gw gi gb n_ sz_ = some r) : Spec Tryd.prog 35 #[(.pointer (some ⟨vb, 0, none⟩)), (.agg #[(.int .i64 gw), (.int .i64 gi), (.int .i64 gb)]), (.int .i64 n_), (.int .u64 sz_)] B w [viewA (ptr vb) img l] (fun v H' => v = .int .i64 r.1 ∧ H' = [viewA (ptr vb) img r.2]) := by
 refine spec_W Tryd.func35 rfl fun l0 hs => ?_
 unfold dResize_M at hm
 refine W.sr fun K1 hK1 => ?_
 refine zN [(.int .i64 gw), (.int .i64 gi), (.int .i64 gb)] 23 hs fun b4 w2 hs3 => ?_
 refine zE 1 (hK1 _ _ ?_)
 refine W.sr fun K16 hK16 => ?_
 refine zR 1 ?_
 refine ops_R (runs_loadAgg (ad := ⟨b4, 0, none⟩) (cs := [(.int .i64 gw), (.int .i64 gi), (.int .i64 gb)]) (by kernel_rfl) (cells_sub (hs3.heapAt 0 rfl) rfl)) ?_
 refine zR 1 ?_
 rcases Bool.eq_false_or_eq_true (decide ((igetM img l gw gi gb n_).2 = 0)) with h17 | h17
 ·
  obtain ⟨h17p, hm⟩ := iY hm h17
  rcases Bool.eq_false_or_eq_true (decide ((igetM img l gw gi gb n_).1.k = 2)) with h18 | h18
  ·
   obtain ⟨h18p, hm⟩ := iY hm h18
   refine zC00 hs3 (dfile_dir (gw := gw) (gi := gi) (gb := gb) (n_ := n_) (hv := (hs3.entAt 1 rfl viewA_at)) (hP := h17p) (hK := h18p) B _) fun w19 hs21 => ?_
   refine zR 4 ?_
   refine zN [(.int .u64 0), (.int .u64 0), (.int .u64 0), (.int .u64 0), (.int .u64 0), (.int .u64 0), (.int .u64 0), (.int .u64 0), (.int .u64 0), (.int .u64 0)] 78 hs21 fun b24 w22 hs23 => ?_
   refine ops_store (off := 0) (cs := [(.int .u64 0), (.int .u64 0), (.int .u64 0), (.int .u64 0), (.int .u64 0), (.int .u64 0), (.int .u64 0), (.int .u64 0), (.int .u64 0), (.int .u64 0)]) (vs := [(.int .u64 0), (.int .u64 0), (.int .u64 0), (.int .u64 0), (.int .u64 0), (.int .u64 0), (.int .u64 0), (.int .u64 0), (.int .u64 0), (.int .u64 0)]) hs23 (by kernel_rfl) (by simp) rfl (fun w25 hs26 => ?_)
   have hs27 : St B w l0 w25 [blk b24 (.cells [(.int .u64 0), (.int .u64 0), (.int .u64 0), (.int .u64 0), (.int .u64 0), (.int .u64 0), (.int .u64 0), (.int .u64 0), (.int .u64 0), (.int .u64 0)].toArray 78 (0, 0)), blk b4 (.cells [(.int .i64 gw), (.int .i64 gi), (.int .i64 gb)].toArray 23 (0, 0)), viewA (ptr vb) img l] := hs26
   refine zE 2 (hK16 _ _ ?_)
   refine W.seq fun K28 hK28 => ?_
   refine W.block ?_
   refine W.sr fun K29 hK29 => ?_
   refine zE 3 (hK29 _ _ ?_)
   refine W.cond_true true (by kernel_rfl) rfl ?_
   refine W.sr fun K30 hK30 => ?_
   refine zE 2 (hK30 _ _ ?_)
   refine W.ret (ret_block (ret_seq ?_))
   obtain rfl := some_inj hm
   have hs31 := St.f2 hs27
   have hs32 := St.tk1 hs31
   refine ret_of (.int .i64 11) (by kernel_rfl) ⟨_, ⟨rfl, rfl⟩, hs32⟩
  ·
   obtain ⟨h18p, hm⟩ := iN hm h18
   refine ops_call0 hs3 (by kernel_rfl) (dfile_ok (gw := gw) (gi := gi) (gb := gb) (n_ := n_) (hv := (hs3.entAt 1 rfl viewA_at)) (hP := h17p) (hK := h18p) B _) ?_
   rintro _ _ w34 ⟨b33, rfl, rfl⟩ hs35
   have hs36 := St.ap1 hs35
   refine zR 4 ?_
   refine zN [(.int .u64 0), (.int .u64 0), (.int .u64 0), (.int .u64 0), (.int .u64 0), (.int .u64 0), (.int .u64 0), (.int .u64 0), (.int .u64 0), (.int .u64 0)] 78 hs36 fun b39 w37 hs38 => ?_
   refine ops_store (off := 0) (cs := [(.int .u64 0), (.int .u64 0), (.int .u64 0), (.int .u64 0), (.int .u64 0), (.int .u64 0), (.int .u64 0), (.int .u64 0), (.int .u64 0), (.int .u64 0)]) (vs := [(.int .u64 ((igetM img l gw gi gb n_).1.k)), (.int .u64 ((igetM img l gw gi gb n_).1.l)), (.int .u64 ((igetM img l gw gi gb n_).1.o)), (.int .u64 ((igetM img l gw gi gb n_).1.s)), (.int .u64 ((igetM img l gw gi gb n_).1.a)), (.int .u64 ((igetM img l gw gi gb n_).1.b)), (.int .u64 ((igetM img l gw gi gb n_).1.c)), (.int .u64 ((igetM img l gw gi gb n_).1.d)), (.int .u64 ((igetM img l gw gi gb n_).1.e)), (.int .u64 ((igetM img l gw gi gb n_).1.m))]) hs38 (by kernel_rfl) (by simp) rfl (fun w40 hs41 => ?_)
   have hs42 : St B w l0 w40 [blk b39 (.cells [(.int .u64 ((igetM img l gw gi gb n_).1.k)), (.int .u64 ((igetM img l gw gi gb n_).1.l)), (.int .u64 ((igetM img l gw gi gb n_).1.o)), (.int .u64 ((igetM img l gw gi gb n_).1.s)), (.int .u64 ((igetM img l gw gi gb n_).1.a)), (.int .u64 ((igetM img l gw gi gb n_).1.b)), (.int .u64 ((igetM img l gw gi gb n_).1.c)), (.int .u64 ((igetM img l gw gi gb n_).1.d)), (.int .u64 ((igetM img l gw gi gb n_).1.e)), (.int .u64 ((igetM img l gw gi gb n_).1.m))].toArray 78 (0, 0)), blk b33 (.cells [(.pointer (some ⟨vb, 0, none⟩)), (.int .i64 gw), (.int .i64 gi), (.int .i64 gb), (.int .i64 n_)].toArray 85 (0, 0)), blk b4 (.cells [(.int .i64 gw), (.int .i64 gi), (.int .i64 gb)].toArray 23 (0, 0)), viewA (ptr vb) img l] := hs41
   refine zE 2 (hK16 _ _ ?_)
   refine W.seq fun K43 hK43 => ?_
   refine W.block ?_
   refine W.sr fun K44 hK44 => ?_
   refine zE 3 (hK44 _ _ ?_)
   refine W.cond_false false (by kernel_rfl) rfl ?_
   refine W.sr fun K45 hK45 => ?_
   refine zE 3 (hK45 _ _ ?_)
   refine W.cond (decide (sz_ > 768)) (by kernel_rfl) (fun h46 => ?_) (fun h46 => ?_)
   ·
    obtain ⟨h46p, hm⟩ := iY hm h46
    refine W.sr fun K47 hK47 => ?_
    refine zE 1 (hK47 _ _ ?_)
    refine W.ret (ret_block (ret_seq ?_))
    obtain rfl := some_inj hm
    have hs48 := St.f3 hs42
    have hs49 := St.tk1 hs48
    refine ret_of (.int .i64 8) (by kernel_rfl) ⟨_, ⟨rfl, rfl⟩, hs49⟩
   ·
    obtain ⟨h46p, hm⟩ := iN hm h46
    refine W.skip ?_
    refine normal_block ?_
    refine hK43 _ _ ?_
    refine W.seq_join (fun s_ w_ => ∃ (l50 : List (Int × Int)), (∃ us, s_ = slots 48 [(0, (.pointer (some ⟨vb, 0, none⟩))), (2, (.int .i64 n_)), (3, (.int .u64 sz_)), (5, (.pointer (some ⟨b4, 0, none⟩)))] us) ∧ St B w l0 w_ [viewA (ptr vb) img l50, blk b4 (.cells [(.int .i64 gw), (.int .i64 gi), (.int .i64 gb)].toArray 23 (0, 0)), blk b39 (.cells [(.int .u64 ((igetM img l gw gi gb n_).1.k)), (.int .u64 ((igetM img l gw gi gb n_).1.l)), (.int .u64 ((igetM img l gw gi gb n_).1.o)), (.int .u64 ((igetM img l gw gi gb n_).1.s)), (.int .u64 ((igetM img l gw gi gb n_).1.a)), (.int .u64 ((igetM img l gw gi gb n_).1.b)), (.int .u64 ((igetM img l gw gi gb n_).1.c)), (.int .u64 ((igetM img l gw gi gb n_).1.d)), (.int .u64 ((igetM img l gw gi gb n_).1.e)), (.int .u64 ((igetM img l gw gi gb n_).1.m))].toArray 78 (0, 0)), blk b33 (.cells [(.pointer (some ⟨vb, 0, none⟩)), (.int .i64 gw), (.int .i64 gi), (.int .i64 gb), (.int .i64 n_)].toArray 85 (0, 0))] ∧ dResize_J1 img gw gi gb n_ sz_ l50 = some r) ?_ ?_
    ·
     rintro _ w51 ⟨l50, ⟨us, rfl⟩, hs52, hm⟩
     unfold dResize_J1 at hm
     refine W.sr fun K53 hK53 => ?_
     refine zR 1 ?_
     refine ops_R (runs_loadAgg (ad := ⟨b4, 0, none⟩) (cs := [(.int .i64 gw), (.int .i64 gi), (.int .i64 gb)]) (by kernel_rfl) (cells_sub (hs52.heapAt 1 rfl) rfl)) ?_
     refine zR 1 ?_
     obtain ⟨r54, h55, hm⟩ := bind_some hm
     replace h55 := some_inj h55
     refine ops_call0 hs52 (by kernel_rfl) (inodeat_spec (gw := gw) (gi := gi) (gb := gb) (n_ := n_) B _) ?_
     rintro _ _ w56 ⟨hv58, hH59⟩ hs57
     rw [h55] at hv58
     try rw [h55] at hH59
     subst hv58 hH59
     have hs60 := St.ap0 hs57
     obtain ⟨h61, hm⟩ := need_some hm
     refine zI _ (wrap_i64 h61.1 h61.2) ?_
     refine zR 1 ?_
     refine zC11 hs60 (sset_spec (b := vb) (img := img) (l := l50) (at_ := (r54 + 3)) (x_ := sz_) B _) fun w62 hs64 => ?_
     refine zR 1 ?_
     obtain ⟨r65, h66, hm⟩ := bind_some hm
     replace h66 := some_inj h66
     refine ops_set 8 (v := .int .i64 r65) (Eq.trans (by kernel_rfl) (congrArg (Value.int .i64) h66)) ?_
     refine zD (hK53 _ _ ?_)
     refine W.ret ?_
     obtain rfl := some_inj hm
     have hs67 := St.tk1 hs64
     refine ret_of (.int .i64 r65) (by kernel_rfl) ⟨_, ⟨rfl, rfl⟩, hs67⟩
    ·
     refine W.sr fun K68 hK68 => ?_
     refine zR 2 ?_
     refine zL ⟨b39, 3, none⟩ (.int .u64 ((igetM img l gw gi gb n_).1.s)) (hs42.cellAt 0 rfl rfl) ?_
     refine zE 1 (hK68 _ _ ?_)
     refine W.cond (decide (sz_ < (igetM img l gw gi gb n_).1.s)) (by kernel_rfl) (fun h69 => ?_) (fun h69 => ?_)
     ·
      obtain ⟨h69p, hm⟩ := iY hm h69
      refine W.sr fun K70 hK70 => ?_
      refine zR 1 ?_
      refine ops_R (runs_loadAgg (ad := ⟨b4, 0, none⟩) (cs := [(.int .i64 gw), (.int .i64 gi), (.int .i64 gb)]) (by kernel_rfl) (cells_sub (hs42.heapAt 2 rfl) rfl)) ?_
      refine zR 2 ?_
      obtain ⟨h71, hm⟩ := need_some hm
      refine zI _ (wrap_i64 h71.1 h71.2) ?_
      obtain ⟨r72, h73, hm⟩ := bind_some hm
      have hs74 := St.f1 hs42
      have hs75 := St.f3 hs74
      refine zC22 hs75 (dshrink_walk (vb := vb) (mb := b33) (img := img) (l := l) (gw := gw) (gi := gi) (gb := gb) (n_ := n_) (sz_ := sz_) (hm := h73) B _) fun w76 hs78 => ?_
      refine zE 1 (hK70 _ _ ?_)
      refine W.sr fun K79 hK79 => ?_
      refine zE 2 (hK79 _ _ ?_)
      refine W.cond (!decide (r72.1 = 0)) (by kernel_rfl) (fun h80 => ?_) (fun h80 => ?_)
      rotate_left
      ·
       have h80p : r72.1 = 0 := of_decide_eq_true (bnot_false h80)
       replace hm := ite_yes hm h80p
       refine W.skip ?_
       have hs81 := St.f1 hs78
       have hs82 := St.f2 hs81
       have hs83 := St.f3 hs82
       have hs84 := St.f3 hs83
       exact ⟨r72.2, slots_intro _ (by kernel_rfl), hs84, hm⟩
      ·
       have h80p : ¬ (r72.1 = 0) := of_decide_eq_false (bnot_true h80)
       replace hm := ite_no hm h80p
       refine W.sr fun K85 hK85 => ?_
       refine zE 2 (hK85 _ _ ?_)
       refine W.ret (ret_seq ?_)
       obtain rfl := some_inj hm
       have hs86 := St.tk1 hs78
       refine ret_of (.int .i64 r72.1) (by kernel_rfl) ⟨_, ⟨rfl, rfl⟩, hs86⟩
     ·
      obtain ⟨h69p, hm⟩ := iN hm h69
      refine W.skip ?_
      have hs87 := St.f1 hs42
      have hs88 := St.f1 hs87
      have hs89 := St.f2 hs88
      have hs90 := St.f3 hs89
      exact ⟨l, slots_intro _ (by kernel_rfl), hs90, hm⟩
 ·
  obtain ⟨h17p, hm⟩ := iN hm h17
  refine zC00 hs3 (dfile_err (gw := gw) (gi := gi) (gb := gb) (n_ := n_) (hv := (hs3.entAt 1 rfl viewA_at)) (hN := h17p) B _) fun w91 hs93 => ?_
  refine zR 4 ?_
  refine zN [(.int .u64 0), (.int .u64 0), (.int .u64 0), (.int .u64 0), (.int .u64 0), (.int .u64 0), (.int .u64 0), (.int .u64 0), (.int .u64 0), (.int .u64 0)] 78 hs93 fun b96 w94 hs95 => ?_
  refine ops_store (off := 0) (cs := [(.int .u64 0), (.int .u64 0), (.int .u64 0), (.int .u64 0), (.int .u64 0), (.int .u64 0), (.int .u64 0), (.int .u64 0), (.int .u64 0), (.int .u64 0)]) (vs := [(.int .u64 0), (.int .u64 0), (.int .u64 0), (.int .u64 0), (.int .u64 0), (.int .u64 0), (.int .u64 0), (.int .u64 0), (.int .u64 0), (.int .u64 0)]) hs95 (by kernel_rfl) (by simp) rfl (fun w97 hs98 => ?_)
  have hs99 : St B w l0 w97 [blk b96 (.cells [(.int .u64 0), (.int .u64 0), (.int .u64 0), (.int .u64 0), (.int .u64 0), (.int .u64 0), (.int .u64 0), (.int .u64 0), (.int .u64 0), (.int .u64 0)].toArray 78 (0, 0)), blk b4 (.cells [(.int .i64 gw), (.int .i64 gi), (.int .i64 gb)].toArray 23 (0, 0)), viewA (ptr vb) img l] := hs98
  refine zR 2 ?_
  obtain ⟨r100, h101, hm⟩ := bind_some hm
  replace h101 := some_inj h101
  refine ops_set 11 (v := .int .i64 r100) (Eq.trans (by kernel_rfl) (congrArg (Value.int .i64) h101)) ?_
  refine zD (hK16 _ _ ?_)
  refine W.seq fun K102 hK102 => ?_
  refine W.block ?_
  refine W.sr fun K103 hK103 => ?_
  refine zE 3 (hK103 _ _ ?_)
  refine W.cond (!decide (r100 = 0)) (by kernel_rfl) (fun h104 => ?_) (fun h104 => ?_)
  rotate_left
  ·
   have h104p : r100 = 0 := of_decide_eq_true (bnot_false h104)
   exact absurd h104p (fun e_ => h17p (h101.trans e_))
  ·
   have h104p : ¬ (r100 = 0) := of_decide_eq_false (bnot_true h104)
   replace hm := ite_no hm h104p
   refine W.sr fun K105 hK105 => ?_
   refine zE 2 (hK105 _ _ ?_)
   refine W.ret (ret_block (ret_seq ?_))
   obtain rfl := some_inj hm
   have hs106 := St.f2 hs99
   have hs107 := St.tk1 hs106
   refine ret_of (.int .i64 r100) (by kernel_rfl) ⟨_, ⟨rfl, rfl⟩, hs107⟩

end Go.Proofs.YtmmclabkkigiaaaDoor

set_option linter.unusedVariables false
set_option maxRecDepth 20000
set_option maxHeartbeats 2000000
namespace Go.Proofs.YtmmclabkkigiaaaDoor
open Go Go.RowKit
set_option linter.unusedSimpArgs false
set_option linter.unusedVariables false

def dblock_B0 (img : List Int) (l : List (Int × Int)) (gw : Int) (gi : Int) (gb : Int) (b_ : Int) (k26 : ((List Int) × Int) → Option (List Int)) (q24 : List Int) (p25 : Int) : Option (List Int) :=
 if p25 < 64 then (need (-9223372036854775808 ≤ (p25.tdiv 8) ∧ (p25.tdiv 8) ≤ 9223372036854775807) <|
need (-9223372036854775808 ≤ ((placeOf 9 gw gi gb b_) + (p25.tdiv 8)) ∧ ((placeOf 9 gw gi gb b_) + (p25.tdiv 8)) ≤ 9223372036854775807) <|
need (-9223372036854775808 ≤ (p25.tmod 8 * 8) ∧ (p25.tmod 8 * 8) ≤ 9223372036854775807) <|
need (0 ≤ (p25.tmod 8 * 8)) <|
need (0 ≤ p25 ∧ p25 < (64 : Int)) <|
need (p25.toNat < q24.length) <|
need (-9223372036854775808 ≤ (p25 + 1) ∧ (p25 + 1) ≤ 9223372036854775807) <|
k26 ((q24.set p25.toNat ((shrK .u64 (vget img l ((placeOf 9 gw gi gb b_) + (p25.tdiv 8))) (p25.tmod 8 * 8)) % 256)), (p25 + 1))) else (need (64 = q24.length) <|
some q24)

def dblock_M (img : List Int) (l : List (Int × Int)) (gw : Int) (gi : Int) (gb : Int) (b_ : Int) : Option (List Int) :=
 if b_ = 0 then (need (64 = (List.replicate 64 0).length) <|
some (List.replicate 64 0)) else (iter (fun k_ s_ => dblock_B0 img l gw gi gb b_ k_ s_.1 s_.2) FUEL ((List.replicate 64 0), 0))

theorem dblock_walk {img : List Int} {l : List (Int × Int)} {gw : Int} {gi : Int} {gb : Int} {b_ : Int} {vb : Nat} {r : List Int} (B : Nat) (w : World) (hm : dblock_M img l gw gi gb b_ = some r) : Spec Tryd.prog 67 #[(.pointer (some ⟨vb, 0, none⟩)), (.agg #[(.int .i64 gw), (.int .i64 gi), (.int .i64 gb)]), (.int .i64 b_)] B w [viewA (ptr vb) img l] (fun v H' => ∃ a' c', v = .slice a' r.length c' ∧ H' = [kU8.row a' c' r, viewA (ptr vb) img l]) := by
 refine spec_W Tryd.func67 rfl fun l0 hs => ?_
 unfold dblock_M at hm
 refine W.sr fun K1 hK1 => ?_
 refine zN [(.int .i64 gw), (.int .i64 gi), (.int .i64 gb)] 23 hs fun b4 w2 hs3 => ?_
 refine zE 1 (hK1 _ _ ?_)
 refine W.sr fun K5 hK5 => ?_
 refine ops_new (fun b => .slice (some ⟨b, 0, none⟩) 64 64) (.cells (kU8.cells (List.replicate 64 0)).toArray 5 (0, 0)) hs3 (by kernel_rfl) (fun b8 w6 hs7 => ?_)
 have hs9 : St B w l0 w6 [kU8.row (some ⟨b8, 0, none⟩) 64 (List.replicate 64 0), blk b4 (.cells [(.int .i64 gw), (.int .i64 gi), (.int .i64 gb)].toArray 23 (0, 0)), viewA (ptr vb) img l] := St.kblk kU8 (List.replicate 64 0) hs7 rfl rfl (by decide)
 refine zE 1 (hK5 _ _ ?_)
 refine W.seq fun K10 hK10 => ?_
 refine W.sr fun K11 hK11 => ?_
 refine zE 2 (hK11 _ _ ?_)
 refine W.cond (decide (b_ = 0)) (by kernel_rfl) (fun h12 => ?_) (fun h12 => ?_)
 ·
  obtain ⟨h12p, hm⟩ := iY hm h12
  refine W.sr fun K13 hK13 => ?_
  refine zE 2 (hK13 _ _ ?_)
  refine W.ret (ret_seq ?_)
  obtain ⟨h14, hm⟩ := need_some hm
  obtain rfl := some_inj hm
  have hs15 := St.f2 hs9
  have hs16 := St.f1 hs15
  have hs17 := St.tk2 hs16
  refine ret_of (.slice (some ⟨b8, 0, none⟩) 64 64) (by kernel_rfl) ⟨_, ⟨(some ⟨b8, 0, none⟩), 64, (congrArg (fun n_ => Value.slice (some ⟨b8, 0, none⟩) n_ 64) h14), rfl⟩, hs17⟩
 ·
  obtain ⟨h12p, hm⟩ := iN hm h12
  refine W.skip ?_
  refine hK10 _ _ ?_
  refine W.sr fun K18 hK18 => ?_
  refine ops_R (runs_loadAgg (ad := ⟨b4, 0, none⟩) (cs := [(.int .i64 gw), (.int .i64 gi), (.int .i64 gb)]) (by kernel_rfl) (cells_sub (hs9.heapAt 1 rfl) rfl)) ?_
  refine zR 1 ?_
  refine zC00 hs9 (blockat_spec (gw := gw) (gi := gi) (gb := gb) (n_ := b_) B _) fun w19 hs21 => ?_
  refine zE 1 (hK18 _ _ ?_)
  refine W.seq fun K22 hK22 => ?_
  refine W.sr fun K23 hK23 => ?_
  refine zE 3 (hK23 _ _ ?_)
  refine W.block ?_
  have hs30 := St.f1 hs21
  have hs31 := St.f1 hs30
  have hs32 := St.f2 hs31
  refine W.loop_iter (G := (List Int) × Int) (σ := (List Int) × Int) (fun | (q24, p25) => (q24, p25)) (fun | (q24, p25), s_, w_ => (∃ us, s_ = slots 38 [(0, (.pointer (some ⟨vb, 0, none⟩))), (7, (.slice (some ⟨b8, 0, none⟩) 64 64)), (8, (.int .i64 (placeOf 9 gw gi gb b_))), (18, (.int .i64 64)), (19, (.int .i64 p25))] us) ∧ St B w l0 w_ [viewA (ptr vb) img l, kU8.row (some ⟨b8, 0, none⟩) 64 q24, blk b4 (.cells [(.int .i64 gw), (.int .i64 gi), (.int .i64 gb)].toArray 23 (0, 0))]) ((List.replicate 64 0), 0) ⟨slots_intro _ (by kernel_rfl), hs32⟩ hm ?_
  rintro k26 ih27 ⟨q24, p25⟩ _ w28 ⟨⟨us, rfl⟩, hs29⟩ hm
  replace hm : dblock_B0 img l gw gi gb b_ k26 q24 p25 = some r := hm
  unfold dblock_B0 at hm
  refine W.sr fun K33 hK33 => ?_
  refine zE 1 (hK33 _ _ ?_)
  refine W.seq fun K34 hK34 => ?_
  refine W.cond (decide (p25 < 64)) (by kernel_rfl) (fun h35 => ?_) (fun h35 => ?_)
  ·
   obtain ⟨h35p, hm⟩ := iY hm h35
   refine W.skip ?_
   refine hK34 _ _ ?_
   refine W.seq fun K36 hK36 => ?_
   refine W.block ?_
   refine W.sr fun K37 hK37 => ?_
   refine zE 2 (hK37 _ _ ?_)
   refine W.region ?_
   refine zR 5 ?_
   obtain ⟨h38, hm⟩ := need_some hm
   refine ops_R (v := .int .i64 (p25.tdiv 8)) (runs_quo (k := .i64) (a := p25) (b := 8) (by kernel_rfl) (by decide) (wrap_i64 h38.1 h38.2)) ?_
   obtain ⟨h39, hm⟩ := need_some hm
   refine zI _ (wrap_i64 h39.1 h39.2) ?_
   refine zC00 hs29 (get_spec (at_ := ((placeOf 9 gw gi gb b_) + (p25.tdiv 8))) (hv := (hs29.entAt 0 rfl viewA_at)) B _) fun w40 hs42 => ?_
   refine zR 2 ?_
   obtain ⟨h43, hm⟩ := need_some hm
   refine zI _ (wrap_i64 h43.1 h43.2) ?_
   obtain ⟨h44, hm⟩ := need_some hm
   refine ops_R (v := .int .u64 (shrK .u64 (vget img l ((placeOf 9 gw gi gb b_) + (p25.tdiv 8))) (p25.tmod 8 * 8))) (runs_shift (b := false) (k := .u64) (x := (vget img l ((placeOf 9 gw gi gb b_) + (p25.tdiv 8)))) (y := (p25.tmod 8 * 8)) (by kernel_rfl) h44) ?_
   refine ops_val (v := .int .u8 (IntKind.u8.wrap (shrK .u64 (vget img l ((placeOf 9 gw gi gb b_) + (p25.tdiv 8))) (p25.tmod 8 * 8)))) (v' := .int .u8 ((shrK .u64 (vget img l ((placeOf 9 gw gi gb b_) + (p25.tdiv 8))) (p25.tmod 8 * 8)) % 256)) (by kernel_rfl) (congrArg (Value.int .u8) (wrap_u8_mod _)) ?_
   obtain ⟨h46, hm⟩ := need_some hm
   have hk45 := lt_toNat h46
   obtain ⟨h48, hm⟩ := need_some hm
   have hk47 := h48
   refine ops_R (runs_index (a := (some ⟨b8, 0, none⟩)) (n := 64) (z := p25) (size := 1) p25.toNat (nat_of h46.1) hk45 (kU8.addr (St.kcells kU8 hs42 1 rfl) hk47) (by kernel_rfl)) ?_
   have hs51 := St.f1 hs42
   refine ops_storeK kU8 (j := 0) (vs := [(.int .u8 ((shrK .u64 (vget img l ((placeOf 9 gw gi gb b_) + (p25.tdiv 8))) (p25.tmod 8 * 8)) % 256))]) 0 ((shrK .u64 (vget img l ((placeOf 9 gw gi gb b_) + (p25.tdiv 8))) (p25.tmod 8 * 8)) % 256) hs51 hk47 (Nat.le_of_ble_eq_true rfl) (by simp) rfl rfl (by kernel_rfl) (fun w49 hs50 => ?_)
   refine zD ?_
   refine normal_block ?_
   refine hK36 _ _ ?_
   refine W.region ?_
   obtain ⟨h53, hm⟩ := need_some hm
   refine zI _ (wrap_i64 h53.1 h53.2) ?_
   refine zE 1 ?_
   have hs54 := St.f2 hs50
   have hs55 := St.f1 hs54
   have hs56 := St.f2 hs55
   refine loopAt_next ?_
   exact ih27 ((q24.set p25.toNat ((shrK .u64 (vget img l ((placeOf 9 gw gi gb b_) + (p25.tdiv 8))) (p25.tmod 8 * 8)) % 256)), (p25 + 1)) _ _ ⟨slots_intro _ (by kernel_rfl), hs56⟩ hm
  ·
   obtain ⟨h35p, hm⟩ := iN hm h35
   refine W.exit (exit_seq (exit_seq (exit_here ?_)))
   refine hK22 _ _ ?_
   refine W.sr fun K57 hK57 => ?_
   refine zE 2 (hK57 _ _ ?_)
   refine W.ret ?_
   obtain ⟨h58, hm⟩ := need_some hm
   obtain rfl := some_inj hm
   have hs59 := St.f1 hs29
   have hs60 := St.tk2 hs59
   refine ret_of (.slice (some ⟨b8, 0, none⟩) 64 64) (by kernel_rfl) ⟨_, ⟨(some ⟨b8, 0, none⟩), 64, (congrArg (fun n_ => Value.slice (some ⟨b8, 0, none⟩) n_ 64) h58), rfl⟩, hs60⟩

end Go.Proofs.YtmmclabkkigiaaaDoor

set_option linter.unusedVariables false
set_option maxRecDepth 20000
set_option maxHeartbeats 4000000
namespace Go.Proofs.YtmmclabkkigiaaaDoor
open Go Go.RowKit
set_option linter.unusedSimpArgs false
set_option linter.unusedVariables false

def dread1_M (img : List Int) (l : List (Int × Int)) (gw : Int) (gi : Int) (gb : Int) (n_ : Int) (k_ : Int) (lo_ : Int) (hi_ : Int) (out : List Int) : Option (Int × List Int) :=
 (bat_M img l gw gi gb n_ k_).bind fun r3 =>
if r3.2 = 0 then (need (-9223372036854775808 ≤ (k_ * 64) ∧ (k_ * 64) ≤ 9223372036854775807) <|
need (-9223372036854775808 ≤ (lo_ - (k_ * 64)) ∧ (lo_ - (k_ * 64)) ≤ 9223372036854775807) <|
need (-9223372036854775808 ≤ (hi_ - (k_ * 64)) ∧ (hi_ - (k_ * 64)) ≤ 9223372036854775807) <|
(dblock_M img l gw gi gb r3.1).bind fun r29 =>
need (0 ≤ (lo_ - (k_ * 64)) ∧ (lo_ - (k_ * 64)) ≤ (hi_ - (k_ * 64)) ∧ (hi_ - (k_ * 64)) ≤ (r29.length : Int)) <|
need (out.length + ((r29.drop ((lo_ - (k_ * 64)).toNat)).take (((hi_ - (k_ * 64)).toNat) - ((lo_ - (k_ * 64)).toNat))).length ≤ 1000000000) <|
some (0, (out ++ ((r29.drop ((lo_ - (k_ * 64)).toNat)).take (((hi_ - (k_ * 64)).toNat) - ((lo_ - (k_ * 64)).toNat)))))) else (some (r3.2, out))

theorem dread1_walk {img : List Int} {l : List (Int × Int)} {gw : Int} {gi : Int} {gb : Int} {n_ : Int} {k_ : Int} {lo_ : Int} {hi_ : Int} {out : List Int} {mb vb mc vc gc : Nat} {oc : Nat} {oa : Option Addr} {occ : Nat} {r : Int × List Int} (B : Nat) (w : World) (hm : dread1_M img l gw gi gb n_ k_ lo_ hi_ out = some r) : Spec Tryd.prog 66 #[(.int .i64 k_), (.int .i64 lo_), (.int .i64 hi_), (.pointer (some ⟨mc, 0, none⟩)), (.pointer (some ⟨oc, 0, none⟩)), (.pointer (some ⟨vc, 0, none⟩)), (.pointer (some ⟨gc, 0, none⟩))] B w [blk mc (.cells [(.pointer (some ⟨mb, 0, none⟩))].toArray 24 (0, 0)), blk mb (.cells [(.pointer (some ⟨vb, 0, none⟩)), (.int .i64 gw), (.int .i64 gi), (.int .i64 gb), (.int .i64 n_)].toArray 85 (0, 0)), viewA (ptr vb) img l, blk vc (.cells [(.pointer (some ⟨vb, 0, none⟩))].toArray 30 (0, 0)), blk gc (.cells [(.int .i64 gw), (.int .i64 gi), (.int .i64 gb)].toArray 23 (0, 0)), blk oc (.cells [(.slice oa out.length occ)].toArray 51 (0, 0)), kU8.row oa occ out] (fun v H' => ∃ a' c', v = .int .i64 r.1 ∧ H' = [blk mc (.cells [(.pointer (some ⟨mb, 0, none⟩))].toArray 24 (0, 0)), blk mb (.cells [(.pointer (some ⟨vb, 0, none⟩)), (.int .i64 gw), (.int .i64 gi), (.int .i64 gb), (.int .i64 n_)].toArray 85 (0, 0)), viewA (ptr vb) img l, blk vc (.cells [(.pointer (some ⟨vb, 0, none⟩))].toArray 30 (0, 0)), blk gc (.cells [(.int .i64 gw), (.int .i64 gi), (.int .i64 gb)].toArray 23 (0, 0)), blk oc (.cells [.slice a' r.2.length c'].toArray 51 (0, 0)), kU8.row a' c' r.2]) := by
 refine spec_W Tryd.func66 rfl fun l0 hs => ?_
 unfold dread1_M at hm
 refine W.sr fun K1 hK1 => ?_
 refine zE 1 (hK1 _ _ ?_)
 refine W.sr fun K2 hK2 => ?_
 refine zL ⟨mc, 0, none⟩ (.pointer (some ⟨mb, 0, none⟩)) (hs.cellAt 0 rfl rfl) ?_
 refine zR 1 ?_
 obtain ⟨r3, h4, hm⟩ := bind_some hm
 refine zC00 hs (bat_walk (k_ := k_) (img := img) (l := l) (gw := gw) (gi := gi) (gb := gb) (n_ := n_) (hmb := (hs.heapAt 1 rfl)) (hv := (hs.entAt 2 rfl viewA_at)) (hm := h4) B _) fun w5 hs7 => ?_
 refine zE 5 (hK2 _ _ ?_)
 refine W.seq fun K8 hK8 => ?_
 refine W.sr fun K9 hK9 => ?_
 refine zE 2 (hK9 _ _ ?_)
 refine W.cond (!decide (r3.2 = 0)) (by kernel_rfl) (fun h10 => ?_) (fun h10 => ?_)
 rotate_left
 ·
  have h10p : r3.2 = 0 := of_decide_eq_true (bnot_false h10)
  replace hm := ite_yes hm h10p
  refine W.skip ?_
  refine hK8 _ _ ?_
  refine W.sr fun K11 hK11 => ?_
  refine zR 1 ?_
  obtain ⟨h12, hm⟩ := need_some hm
  refine zI _ (wrap_i64 h12.1 h12.2) ?_
  refine zE 1 (hK11 _ _ ?_)
  refine W.seq fun K13 hK13 => ?_
  have hs14 := hs7.drew
  have hs15 := St.f4 hs14
  have hs16 := St.f4 hs15
  have hs17 := St.f4 hs16
  have hs18 := St.f4 hs17
  have hs19 := St.f4 hs18
  have hs20 := St.tk5 hs19
  refine W.regionD [(0, 0), (0, 0), (0, 0), (0, 0), (14, 14), (0, 0), (0, 0), (96, 96), (0, 0), (0, 0), (768, 768), (1168, 1168), (2065, 2049), (8191, 4096)] (fun w_ => St B w l0 w_ [blk mc (.cells [(.pointer (some ⟨mb, 0, none⟩))].toArray 24 (0, 0)), blk mb (.cells [(.pointer (some ⟨vb, 0, none⟩)), (.int .i64 gw), (.int .i64 gi), (.int .i64 gb), (.int .i64 n_)].toArray 85 (0, 0)), viewA (ptr vb) img l, blk vc (.cells [(.pointer (some ⟨vb, 0, none⟩))].toArray 30 (0, 0)), blk gc (.cells [(.int .i64 gw), (.int .i64 gi), (.int .i64 gb)].toArray 23 (0, 0))]) (by kernel_rfl) hs20 ?_
  refine any_R 1 (by kernel_rfl) (fun _ hS_ => runs_load (ad := ⟨vc, 0, none⟩) (v := (.pointer (some ⟨vb, 0, none⟩))) (by kernel_rfl) (hS_.cellAt 3 rfl rfl)) hs20 ?_
  refine any_R 2 (by kernel_rfl) (fun _ hS_ => runs_loadAgg (ad := ⟨gc, 0, none⟩) (cs := [(.int .i64 gw), (.int .i64 gi), (.int .i64 gb)]) (by kernel_rfl) (cells_sub (hS_.heapAt 4 rfl) rfl)) hs20 ?_
  refine any_val (v := (.int .i64 r3.1)) (v' := (.int .i64 r3.1)) 3 (by kernel_rfl) (fun _ => by kernel_rfl) rfl hs20 ?_
  refine any_val (v := (.int .i64 lo_)) (v' := (.int .i64 lo_)) 5 (by kernel_rfl) (fun _ => by kernel_rfl) rfl hs20 ?_
  refine any_val (v := (.int .i64 (k_ * 64))) (v' := (.int .i64 (k_ * 64))) 6 (by kernel_rfl) (fun _ => by kernel_rfl) rfl hs20 ?_
  obtain ⟨h21, hm⟩ := need_some hm
  refine any_val (v := .int .i64 (IntKind.i64.wrap (lo_ - (k_ * 64)))) (v' := .int .i64 (lo_ - (k_ * 64))) 7 (by kernel_rfl) (fun _ => by kernel_rfl) (congrArg (Value.int .i64) (wrap_i64 h21.1 h21.2)) hs20 ?_
  refine any_val (v := (.int .i64 hi_)) (v' := (.int .i64 hi_)) 8 (by kernel_rfl) (fun _ => by kernel_rfl) rfl hs20 ?_
  refine any_val (v := (.int .i64 (k_ * 64))) (v' := (.int .i64 (k_ * 64))) 9 (by kernel_rfl) (fun _ => by kernel_rfl) rfl hs20 ?_
  obtain ⟨h22, hm⟩ := need_some hm
  refine any_val (v := .int .i64 (IntKind.i64.wrap (hi_ - (k_ * 64)))) (v' := .int .i64 (hi_ - (k_ * 64))) 10 (by kernel_rfl) (fun _ => by kernel_rfl) (congrArg (Value.int .i64) (wrap_i64 h22.1 h22.2)) hs20 ?_
  refine any_step2 0 4 (by kernel_rfl) (by kernel_rfl) (by kernel_rfl) ?_ ?_
  ·
   refine zL ⟨oc, 0, none⟩ (.slice oa out.length occ) (hs14.cellAt 5 rfl rfl) ?_
   have hs23 := St.f4 hs14
   have hs24 := St.f4 hs23
   have hs25 := St.f4 hs24
   have hs26 := St.f4 hs25
   have hs27 := St.f4 hs26
   have hs28 := St.tk5 hs27
   refine ops_done (by kernel_rfl) ⟨hs28, ?_⟩
   refine any_step 4 (by kernel_rfl) (by kernel_rfl) ?_
   obtain ⟨r29, h30, hm⟩ := bind_some hm
   have hs33 := St.f2 hs14
   refine ops_call1 hs33 (by kernel_rfl) (dblock_walk (vb := vb) (img := img) (l := l) (gw := gw) (gi := gi) (gb := gb) (b_ := r3.1) (hm := h30) B _) ?_
   rintro _ _ w34 ⟨a31, c32, rfl, rfl⟩ hs35
   have hs36 := St.ap2 hs35
   have hs37 := St.f5 hs36
   have hs38 := St.f5 hs37
   have hs39 := St.f3 hs38
   have hs40 := St.f5 hs39
   have hs41 := St.f5 hs40
   have hs42 := St.tk5 hs41
   refine ops_done (by kernel_rfl) ⟨hs42, ?_⟩
   obtain ⟨h43, hm⟩ := need_some hm
   have h44 : (lo_ - (k_ * 64)).toNat ≤ (hi_ - (k_ * 64)).toNat := by omega
   have h45 : (hi_ - (k_ * 64)).toNat ≤ r29.length := by omega
   have h46 : (hi_ - (k_ * 64)).toNat ≤ c32 := Nat.le_trans h45 (St.kcap kU8 hs36 0 rfl)
   refine any_R 11 (by kernel_rfl) (fun _ hS_ => runs_part (a := a31) (n := r29.length) (c := c32) (lo := (lo_ - (k_ * 64))) (hi := (hi_ - (k_ * 64))) (size := 1) ((lo_ - (k_ * 64)).toNat) ((hi_ - (k_ * 64)).toNat) ((r29.drop ((lo_ - (k_ * 64)).toNat)).take (((hi_ - (k_ * 64)).toNat) - ((lo_ - (k_ * 64)).toNat))).length (nat_of h43.1) (nat_of (Int.le_trans h43.1 h43.2.1)) h44 h46 (part_len h44 h45) (by kernel_rfl)) hs42 ?_
   refine any_step 12 (by kernel_rfl) (by kernel_rfl) ?_
   have hs47 := St.f7 hs36
   obtain ⟨h52, hm⟩ := need_some hm
   refine ops_appendK kU8 (bytes := 1) (a' := (partA a31 c32 ((lo_ - (k_ * 64)).toNat) 1)) (c' := (c32 - ((lo_ - (k_ * 64)).toNat))) (l := out) (m := ((r29.drop ((lo_ - (k_ * 64)).toNat)).take (((hi_ - (k_ * 64)).toNat) - ((lo_ - (k_ * 64)).toNat)))) hs47 (by kernel_rfl) (part_nil (St.capnil kU8 hs47 1 rfl)) (part_cells kU8 (St.kcells kU8 hs47 1 rfl) h44 h45 h46) (by unfold maxLen; (try simp only [List.length_cons, List.length_nil]); omega) (by (try simp only [List.length_cons, List.length_nil]); omega) (fun a48 c49 w50 hs51 => ?_)
   have hs53 := St.f6 hs51
   have hs54 := St.f6 hs53
   have hs55 := St.f4 hs54
   have hs56 := St.f6 hs55
   have hs57 := St.f6 hs56
   have hs58 := St.tk5 hs57
   refine ops_done (by kernel_rfl) ⟨hs58, ?_⟩
   refine any_step 13 (by kernel_rfl) (by kernel_rfl) ?_
   have hs61 := St.f7 hs51
   refine ops_store (off := 0) (cs := [(.slice oa out.length occ)]) (vs := [(.slice a48 ((out ++ ((r29.drop ((lo_ - (k_ * 64)).toNat)).take (((hi_ - (k_ * 64)).toNat) - ((lo_ - (k_ * 64)).toNat)))).length) c49)]) hs61 (by kernel_rfl) (by simp) rfl (fun w59 hs60 => ?_)
   have hs62 : St B w l0 w59 [blk oc (.cells [(.slice a48 ((out ++ ((r29.drop ((lo_ - (k_ * 64)).toNat)).take (((hi_ - (k_ * 64)).toNat) - ((lo_ - (k_ * 64)).toNat)))).length) c49)].toArray 51 (0, 0)), kU8.row a48 c49 (out ++ ((r29.drop ((lo_ - (k_ * 64)).toNat)).take (((hi_ - (k_ * 64)).toNat) - ((lo_ - (k_ * 64)).toNat)))), kU8.row a31 c32 r29, viewA (ptr vb) img l, blk mc (.cells [(.pointer (some ⟨mb, 0, none⟩))].toArray 24 (0, 0)), blk mb (.cells [(.pointer (some ⟨vb, 0, none⟩)), (.int .i64 gw), (.int .i64 gi), (.int .i64 gb), (.int .i64 n_)].toArray 85 (0, 0)), blk vc (.cells [(.pointer (some ⟨vb, 0, none⟩))].toArray 30 (0, 0)), blk gc (.cells [(.int .i64 gw), (.int .i64 gi), (.int .i64 gb)].toArray 23 (0, 0))] := hs60
   have hs63 := St.f7 hs62
   have hs64 := St.f7 hs63
   have hs65 := St.f5 hs64
   have hs66 := St.f7 hs65
   have hs67 := St.f7 hs66
   have hs68 := St.tk5 hs67
   refine ops_done (by kernel_rfl) ⟨hs68, ?_⟩
   refine any_done (by kernel_rfl) ?_
   refine hK13 _ _ ?_
   refine W.sr fun K69 hK69 => ?_
   refine zE 1 (hK69 _ _ ?_)
   refine W.ret ?_
   obtain rfl := some_inj hm
   have hs70 := St.f1 hs62
   have hs71 := St.f1 hs70
   have hs72 := St.f7 hs71
   have hs73 := St.f7 hs72
   have hs74 := St.f5 hs73
   have hs75 := St.f7 hs74
   have hs76 := St.f7 hs75
   have hs77 := St.tk7 hs76
   refine ret_of (.int .i64 0) (by kernel_rfl) ⟨_, ⟨a48, c49, rfl, rfl⟩, hs77⟩
  ·
   obtain ⟨r78, h79, hm⟩ := bind_some hm
   have hs82 := St.f2 hs14
   refine ops_call1 hs82 (by kernel_rfl) (dblock_walk (vb := vb) (img := img) (l := l) (gw := gw) (gi := gi) (gb := gb) (b_ := r3.1) (hm := h79) B _) ?_
   rintro _ _ w83 ⟨a80, c81, rfl, rfl⟩ hs84
   have hs85 := St.ap2 hs84
   have hs86 := St.f5 hs85
   have hs87 := St.f5 hs86
   have hs88 := St.f3 hs87
   have hs89 := St.f5 hs88
   have hs90 := St.f5 hs89
   have hs91 := St.tk5 hs90
   refine ops_done (by kernel_rfl) ⟨hs91, ?_⟩
   obtain ⟨h92, hm⟩ := need_some hm
   have h93 : (lo_ - (k_ * 64)).toNat ≤ (hi_ - (k_ * 64)).toNat := by omega
   have h94 : (hi_ - (k_ * 64)).toNat ≤ r78.length := by omega
   have h95 : (hi_ - (k_ * 64)).toNat ≤ c81 := Nat.le_trans h94 (St.kcap kU8 hs85 0 rfl)
   refine any_R 11 (by kernel_rfl) (fun _ hS_ => runs_part (a := a80) (n := r78.length) (c := c81) (lo := (lo_ - (k_ * 64))) (hi := (hi_ - (k_ * 64))) (size := 1) ((lo_ - (k_ * 64)).toNat) ((hi_ - (k_ * 64)).toNat) ((r78.drop ((lo_ - (k_ * 64)).toNat)).take (((hi_ - (k_ * 64)).toNat) - ((lo_ - (k_ * 64)).toNat))).length (nat_of h92.1) (nat_of (Int.le_trans h92.1 h92.2.1)) h93 h95 (part_len h93 h94) (by kernel_rfl)) hs91 ?_
   refine any_step 0 (by kernel_rfl) (by kernel_rfl) ?_
   refine zL ⟨oc, 0, none⟩ (.slice oa out.length occ) (hs85.cellAt 6 rfl rfl) ?_
   have hs96 := St.f5 hs85
   have hs97 := St.f5 hs96
   have hs98 := St.f3 hs97
   have hs99 := St.f5 hs98
   have hs100 := St.f5 hs99
   have hs101 := St.tk5 hs100
   refine ops_done (by kernel_rfl) ⟨hs101, ?_⟩
   refine any_step 12 (by kernel_rfl) (by kernel_rfl) ?_
   have hs102 := St.f7 hs85
   obtain ⟨h107, hm⟩ := need_some hm
   refine ops_appendK kU8 (bytes := 1) (a' := (partA a80 c81 ((lo_ - (k_ * 64)).toNat) 1)) (c' := (c81 - ((lo_ - (k_ * 64)).toNat))) (l := out) (m := ((r78.drop ((lo_ - (k_ * 64)).toNat)).take (((hi_ - (k_ * 64)).toNat) - ((lo_ - (k_ * 64)).toNat)))) hs102 (by kernel_rfl) (part_nil (St.capnil kU8 hs102 1 rfl)) (part_cells kU8 (St.kcells kU8 hs102 1 rfl) h93 h94 h95) (by unfold maxLen; (try simp only [List.length_cons, List.length_nil]); omega) (by (try simp only [List.length_cons, List.length_nil]); omega) (fun a103 c104 w105 hs106 => ?_)
   have hs108 := St.f6 hs106
   have hs109 := St.f6 hs108
   have hs110 := St.f4 hs109
   have hs111 := St.f6 hs110
   have hs112 := St.f6 hs111
   have hs113 := St.tk5 hs112
   refine ops_done (by kernel_rfl) ⟨hs113, ?_⟩
   refine any_step 13 (by kernel_rfl) (by kernel_rfl) ?_
   have hs116 := St.f7 hs106
   refine ops_store (off := 0) (cs := [(.slice oa out.length occ)]) (vs := [(.slice a103 ((out ++ ((r78.drop ((lo_ - (k_ * 64)).toNat)).take (((hi_ - (k_ * 64)).toNat) - ((lo_ - (k_ * 64)).toNat)))).length) c104)]) hs116 (by kernel_rfl) (by simp) rfl (fun w114 hs115 => ?_)
   have hs117 : St B w l0 w114 [blk oc (.cells [(.slice a103 ((out ++ ((r78.drop ((lo_ - (k_ * 64)).toNat)).take (((hi_ - (k_ * 64)).toNat) - ((lo_ - (k_ * 64)).toNat)))).length) c104)].toArray 51 (0, 0)), kU8.row a103 c104 (out ++ ((r78.drop ((lo_ - (k_ * 64)).toNat)).take (((hi_ - (k_ * 64)).toNat) - ((lo_ - (k_ * 64)).toNat)))), kU8.row a80 c81 r78, viewA (ptr vb) img l, blk mc (.cells [(.pointer (some ⟨mb, 0, none⟩))].toArray 24 (0, 0)), blk mb (.cells [(.pointer (some ⟨vb, 0, none⟩)), (.int .i64 gw), (.int .i64 gi), (.int .i64 gb), (.int .i64 n_)].toArray 85 (0, 0)), blk vc (.cells [(.pointer (some ⟨vb, 0, none⟩))].toArray 30 (0, 0)), blk gc (.cells [(.int .i64 gw), (.int .i64 gi), (.int .i64 gb)].toArray 23 (0, 0))] := hs115
   have hs118 := St.f7 hs117
   have hs119 := St.f7 hs118
   have hs120 := St.f5 hs119
   have hs121 := St.f7 hs120
   have hs122 := St.f7 hs121
   have hs123 := St.tk5 hs122
   refine ops_done (by kernel_rfl) ⟨hs123, ?_⟩
   refine any_done (by kernel_rfl) ?_
   refine hK13 _ _ ?_
   refine W.sr fun K124 hK124 => ?_
   refine zE 1 (hK124 _ _ ?_)
   refine W.ret ?_
   obtain rfl := some_inj hm
   have hs125 := St.f1 hs117
   have hs126 := St.f1 hs125
   have hs127 := St.f7 hs126
   have hs128 := St.f7 hs127
   have hs129 := St.f5 hs128
   have hs130 := St.f7 hs129
   have hs131 := St.f7 hs130
   have hs132 := St.tk7 hs131
   refine ret_of (.int .i64 0) (by kernel_rfl) ⟨_, ⟨a103, c104, rfl, rfl⟩, hs132⟩
 ·
  have h10p : ¬ (r3.2 = 0) := of_decide_eq_false (bnot_true h10)
  replace hm := ite_no hm h10p
  refine W.sr fun K133 hK133 => ?_
  refine zE 2 (hK133 _ _ ?_)
  refine W.ret (ret_seq ?_)
  obtain rfl := some_inj hm
  refine ret_of (.int .i64 r3.2) (by kernel_rfl) ⟨_, ⟨oa, occ, rfl, rfl⟩, hs7⟩

end Go.Proofs.YtmmclabkkigiaaaDoor

set_option linter.unusedVariables false
set_option maxRecDepth 20000
set_option maxHeartbeats 4000000
namespace Go.Proofs.YtmmclabkkigiaaaDoor
open Go Go.RowKit
set_option linter.unusedSimpArgs false
set_option linter.unusedVariables false

def dreadP_B0 (img : List Int) (l : List (Int × Int)) (gw : Int) (gi : Int) (gb : Int) (n_ : Int) (f_ : Int) (to_ : Int) (k10 : (Int × (List Int)) → Option (Int × List Int)) (p6 : Int) (q9 : List Int) : Option (Int × List Int) :=
 need (-9223372036854775808 ≤ (p6 * 64) ∧ (p6 * 64) ≤ 9223372036854775807) <|
if (p6 * 64) < to_ then (need (-9223372036854775808 ≤ (p6 * 64) ∧ (p6 * 64) ≤ 9223372036854775807) <|
need (-9223372036854775808 ≤ (p6 + 1) ∧ (p6 + 1) ≤ 9223372036854775807) <|
need (-9223372036854775808 ≤ ((p6 + 1) * 64) ∧ ((p6 + 1) * 64) ≤ 9223372036854775807) <|
(dread1_M img l gw gi gb n_ p6 (mx f_ (p6 * 64)) (mn to_ ((p6 + 1) * 64)) q9).bind fun r30 =>
if r30.1 = 0 then (need (-9223372036854775808 ≤ (p6 + 1) ∧ (p6 + 1) ≤ 9223372036854775807) <|
k10 ((p6 + 1), r30.2)) else (some (r30.1, r30.2))) else (some (0, q9))

def dreadP_M (img : List Int) (l : List (Int × Int)) (gw : Int) (gi : Int) (gb : Int) (n_ : Int) (f_ : Int) (to_ : Int) (out : List Int) : Option (Int × List Int) :=
 need (0 ≤ f_) <|
need (-9223372036854775808 ≤ (f_ / 64) ∧ (f_ / 64) ≤ 9223372036854775807) <|
iter (fun k_ s_ => dreadP_B0 img l gw gi gb n_ f_ to_ k_ s_.1 s_.2) FUEL ((f_ / 64), out)

theorem dreadP_walk {img : List Int} {l : List (Int × Int)} {gw : Int} {gi : Int} {gb : Int} {n_ : Int} {f_ : Int} {to_ : Int} {out : List Int} {mb vb mc vc gc : Nat} {oc : Nat} {oa : Option Addr} {occ : Nat} {r : Int × List Int} (B : Nat) (w : World) (hm : dreadP_M img l gw gi gb n_ f_ to_ out = some r) : Spec Tryd.prog 65 #[(.int .i64 f_), (.int .i64 to_), (.func (.func 66) #[] #[(.pointer (some ⟨mc, 0, none⟩)), (.pointer (some ⟨oc, 0, none⟩)), (.pointer (some ⟨vc, 0, none⟩)), (.pointer (some ⟨gc, 0, none⟩))])] B w [blk mc (.cells [(.pointer (some ⟨mb, 0, none⟩))].toArray 24 (0, 0)), blk mb (.cells [(.pointer (some ⟨vb, 0, none⟩)), (.int .i64 gw), (.int .i64 gi), (.int .i64 gb), (.int .i64 n_)].toArray 85 (0, 0)), viewA (ptr vb) img l, blk vc (.cells [(.pointer (some ⟨vb, 0, none⟩))].toArray 30 (0, 0)), blk gc (.cells [(.int .i64 gw), (.int .i64 gi), (.int .i64 gb)].toArray 23 (0, 0)), blk oc (.cells [(.slice oa out.length occ)].toArray 51 (0, 0)), kU8.row oa occ out] (fun v H' => ∃ a' c', v = .int .i64 r.1 ∧ H' = [blk mc (.cells [(.pointer (some ⟨mb, 0, none⟩))].toArray 24 (0, 0)), blk mb (.cells [(.pointer (some ⟨vb, 0, none⟩)), (.int .i64 gw), (.int .i64 gi), (.int .i64 gb), (.int .i64 n_)].toArray 85 (0, 0)), viewA (ptr vb) img l, blk vc (.cells [(.pointer (some ⟨vb, 0, none⟩))].toArray 30 (0, 0)), blk gc (.cells [(.int .i64 gw), (.int .i64 gi), (.int .i64 gb)].toArray 23 (0, 0)), blk oc (.cells [.slice a' r.2.length c'].toArray 51 (0, 0)), kU8.row a' c' r.2]) := by
 refine spec_W Tryd.func65 rfl fun l0 hs => ?_
 unfold dreadP_M at hm
 refine W.sr fun K1 hK1 => ?_
 refine zE 1 (hK1 _ _ ?_)
 refine W.seq fun K2 hK2 => ?_
 refine W.sr fun K3 hK3 => ?_
 refine zR 1 ?_
 obtain ⟨h4, hm⟩ := need_some hm
 obtain ⟨h5, hm⟩ := need_some hm
 refine ops_R (v := .int .i64 (f_ / 64)) (runs_quo (k := .i64) (a := f_) (b := 64) (by kernel_rfl) (by decide) ((congrArg IntKind.i64.wrap (Int.tdiv_eq_ediv_of_nonneg h4)).trans (wrap_i64 h5.1 h5.2))) ?_
 refine zE 1 (hK3 _ _ ?_)
 refine W.block ?_
 have hs14 := St.f5 hs
 have hs15 := St.f6 hs14
 have hs16 := St.f6 hs15
 have hs17 := St.f6 hs16
 have hs18 := St.f4 hs17
 have hs19 := St.f5 hs18
 have hs20 := St.f6 hs19
 refine W.loop_iter (G := Int × (List Int) × (Option Addr) × Nat) (σ := Int × (List Int)) (fun | (p6, q9, m7, m8) => (p6, q9)) (fun | (p6, q9, m7, m8), s_, w_ => (∃ us, s_ = slots 32 [(0, (.int .i64 f_)), (1, (.int .i64 to_)), (2, (.func (.func 66) #[] #[(.pointer (some ⟨mc, 0, none⟩)), (.pointer (some ⟨oc, 0, none⟩)), (.pointer (some ⟨vc, 0, none⟩)), (.pointer (some ⟨gc, 0, none⟩))])), (7, (.int .i64 p6))] us) ∧ St B w l0 w_ [viewA (ptr vb) img l, blk mb (.cells [(.pointer (some ⟨vb, 0, none⟩)), (.int .i64 gw), (.int .i64 gi), (.int .i64 gb), (.int .i64 n_)].toArray 85 (0, 0)), blk mc (.cells [(.pointer (some ⟨mb, 0, none⟩))].toArray 24 (0, 0)), blk vc (.cells [(.pointer (some ⟨vb, 0, none⟩))].toArray 30 (0, 0)), blk gc (.cells [(.int .i64 gw), (.int .i64 gi), (.int .i64 gb)].toArray 23 (0, 0)), kU8.row m7 m8 q9, blk oc (.cells [(.slice m7 q9.length m8)].toArray 51 (0, 0))]) ((f_ / 64), out, oa, occ) ⟨slots_intro _ (by kernel_rfl), hs20⟩ hm ?_
 rintro k10 ih11 ⟨p6, q9, m7, m8⟩ _ w12 ⟨⟨us, rfl⟩, hs13⟩ hm
 replace hm : dreadP_B0 img l gw gi gb n_ f_ to_ k10 p6 q9 = some r := hm
 unfold dreadP_B0 at hm
 refine W.seq fun K21 hK21 => ?_
 refine W.sr fun K22 hK22 => ?_
 refine zR 1 ?_
 obtain ⟨h23, hm⟩ := need_some hm
 refine zI _ (wrap_i64 h23.1 h23.2) ?_
 refine zE 2 (hK22 _ _ ?_)
 refine W.cond (decide ((p6 * 64) < to_)) (by kernel_rfl) (fun h24 => ?_) (fun h24 => ?_)
 ·
  obtain ⟨h24p, hm⟩ := iY hm h24
  refine W.skip ?_
  refine hK21 _ _ ?_
  refine W.seq fun K25 hK25 => ?_
  refine W.block ?_
  refine W.sr fun K26 hK26 => ?_
  refine zR 4 ?_
  obtain ⟨h27, hm⟩ := need_some hm
  refine zI _ (wrap_i64 h27.1 h27.2) ?_
  refine zR 3 ?_
  obtain ⟨h28, hm⟩ := need_some hm
  refine zI _ (wrap_i64 h28.1 h28.2) ?_
  obtain ⟨h29, hm⟩ := need_some hm
  refine zI _ (wrap_i64 h29.1 h29.2) ?_
  refine zR 1 ?_
  obtain ⟨r30, h31, hm⟩ := bind_some hm
  have hs34 := St.f5 hs13
  have hs35 := St.f6 hs34
  have hs36 := St.f6 hs35
  have hs37 := St.f6 hs36
  have hs38 := St.f4 hs37
  have hs39 := St.f5 hs38
  have hs40 := St.f6 hs39
  refine ops_call7 hs40 (by kernel_rfl) (dread1_walk (mb := mb) (vb := vb) (mc := mc) (vc := vc) (gc := gc) (oc := oc) (oa := m7) (occ := m8) (img := img) (l := l) (gw := gw) (gi := gi) (gb := gb) (n_ := n_) (k_ := p6) (lo_ := (mx f_ (p6 * 64))) (hi_ := (mn to_ ((p6 + 1) * 64))) (out := q9) (hm := h31) B _) ?_
  rintro _ _ w41 ⟨a32, c33, rfl, rfl⟩ hs42
  have hs43 := St.ap7 hs42
  refine zE 1 (hK26 _ _ ?_)
  refine W.sr fun K44 hK44 => ?_
  refine zE 2 (hK44 _ _ ?_)
  refine W.cond (!decide (r30.1 = 0)) (by kernel_rfl) (fun h45 => ?_) (fun h45 => ?_)
  rotate_left
  ·
   have h45p : r30.1 = 0 := of_decide_eq_true (bnot_false h45)
   replace hm := ite_yes hm h45p
   refine W.skip ?_
   refine normal_block ?_
   refine hK25 _ _ ?_
   refine W.region ?_
   refine zR 1 ?_
   obtain ⟨h46, hm⟩ := need_some hm
   refine zI _ (wrap_i64 h46.1 h46.2) ?_
   refine zE 1 ?_
   have hs47 := St.f5 hs43
   have hs48 := St.f6 hs47
   have hs49 := St.f6 hs48
   have hs50 := St.f6 hs49
   have hs51 := St.f4 hs50
   have hs52 := St.f5 hs51
   have hs53 := St.f6 hs52
   refine loopAt_next ?_
   exact ih11 ((p6 + 1), r30.2, a32, c33) _ _ ⟨slots_intro _ (by kernel_rfl), hs53⟩ hm
  ·
   have h45p : ¬ (r30.1 = 0) := of_decide_eq_false (bnot_true h45)
   replace hm := ite_no hm h45p
   refine W.sr fun K54 hK54 => ?_
   refine zE 2 (hK54 _ _ ?_)
   refine W.ret (ret_block (ret_seq (ret_seq (ret_block (ret_seq ?_)))))
   obtain rfl := some_inj hm
   refine ret_of (.int .i64 r30.1) (by kernel_rfl) ⟨_, ⟨a32, c33, rfl, rfl⟩, hs43⟩
 ·
  obtain ⟨h24p, hm⟩ := iN hm h24
  refine W.exit (exit_seq (exit_seq (exit_here ?_)))
  refine hK2 _ _ ?_
  refine W.sr fun K55 hK55 => ?_
  refine zE 1 (hK55 _ _ ?_)
  refine W.ret ?_
  obtain rfl := some_inj hm
  have hs56 := St.f5 hs13
  have hs57 := St.f6 hs56
  have hs58 := St.f6 hs57
  have hs59 := St.f6 hs58
  have hs60 := St.f4 hs59
  have hs61 := St.f5 hs60
  have hs62 := St.f6 hs61
  refine ret_of (.int .i64 0) (by kernel_rfl) ⟨_, ⟨m7, m8, rfl, rfl⟩, hs62⟩

end Go.Proofs.YtmmclabkkigiaaaDoor

set_option linter.unusedVariables false
set_option maxRecDepth 20000
set_option maxHeartbeats 8000000
namespace Go.Proofs.YtmmclabkkigiaaaDoor
open Go Go.RowKit
set_option linter.unusedSimpArgs false
set_option linter.unusedVariables false

def dRead_M (img : List Int) (l : List (Int × Int)) (gw : Int) (gi : Int) (gb : Int) (n_ : Int) (at_ : Int) (sz_ : Int) : Option (ByteArray × Int) :=
 if (igetM img l gw gi gb n_).2 = 0 then (if (igetM img l gw gi gb n_).1.k = 2 then (some (ByteArray.empty, 11)) else (if at_ ≥ (igetM img l gw gi gb n_).1.s then (some (ByteArray.empty, 0)) else (if sz_ = 0 then (some (ByteArray.empty, 0)) else (need (-9223372036854775808 ≤ at_ ∧ at_ ≤ 9223372036854775807) <|
need (-9223372036854775808 ≤ ((at_ + (mn sz_ (((igetM img l gw gi gb n_).1.s - at_) % 18446744073709551616))) % 18446744073709551616) ∧ ((at_ + (mn sz_ (((igetM img l gw gi gb n_).1.s - at_) % 18446744073709551616))) % 18446744073709551616) ≤ 9223372036854775807) <|
(dreadP_M img l gw gi gb n_ at_ ((at_ + (mn sz_ (((igetM img l gw gi gb n_).1.s - at_) % 18446744073709551616))) % 18446744073709551616) ([])).bind fun r81 =>
if r81.1 = 0 then (some ((strOfNums r81.2), 0)) else (some (ByteArray.empty, r81.1)))))) else ((some ((igetM img l gw gi gb n_).2)).bind fun r120 =>
if r120 = 0 then (none) else (some (ByteArray.empty, r120)))

theorem dRead_walk {img : List Int} {l : List (Int × Int)} {gw : Int} {gi : Int} {gb : Int} {n_ : Int} {at_ : Int} {sz_ : Int} {vb : Nat} {r : ByteArray × Int} (B : Nat) (w : World) (hm : dRead_M img l gw gi gb n_ at_ sz_ = some r) : Spec Tryd.prog 31 #[(.pointer (some ⟨vb, 0, none⟩)), (.agg #[(.int .i64 gw), (.int .i64 gi), (.int .i64 gb)]), (.int .i64 n_), (.int .u64 at_), (.int .u64 sz_)] B w [viewA (ptr vb) img l] (fun v H' => v = .tuple #[.string r.1, .int .i64 r.2] ∧ H' = [viewA (ptr vb) img l]) := by
 refine spec_W Tryd.func31 rfl fun l0 hs => ?_
 unfold dRead_M at hm
 refine W.sr fun K1 hK1 => ?_
 refine zN [(.pointer (some ⟨vb, 0, none⟩))] 30 hs fun b4 w2 hs3 => ?_
 refine zN [(.int .i64 gw), (.int .i64 gi), (.int .i64 gb)] 23 hs3 fun b7 w5 hs6 => ?_
 refine zE 2 (hK1 _ _ ?_)
 refine W.sr fun K20 hK20 => ?_
 refine zL ⟨b4, 0, none⟩ (.pointer (some ⟨vb, 0, none⟩)) (hs6.cellAt 1 rfl rfl) ?_
 refine ops_R (runs_loadAgg (ad := ⟨b7, 0, none⟩) (cs := [(.int .i64 gw), (.int .i64 gi), (.int .i64 gb)]) (by kernel_rfl) (cells_sub (hs6.heapAt 0 rfl) rfl)) ?_
 refine zR 1 ?_
 rcases Bool.eq_false_or_eq_true (decide ((igetM img l gw gi gb n_).2 = 0)) with h21 | h21
 ·
  obtain ⟨h21p, hm⟩ := iY hm h21
  rcases Bool.eq_false_or_eq_true (decide ((igetM img l gw gi gb n_).1.k = 2)) with h22 | h22
  ·
   obtain ⟨h22p, hm⟩ := iY hm h22
   refine zC00 hs6 (dfile_dir (gw := gw) (gi := gi) (gb := gb) (n_ := n_) (hv := (hs6.entAt 2 rfl viewA_at)) (hP := h21p) (hK := h22p) B _) fun w23 hs25 => ?_
   refine zR 4 ?_
   refine zN [(.int .u64 0), (.int .u64 0), (.int .u64 0), (.int .u64 0), (.int .u64 0), (.int .u64 0), (.int .u64 0), (.int .u64 0), (.int .u64 0), (.int .u64 0)] 78 hs25 fun b28 w26 hs27 => ?_
   refine zN [(.pointer none)] 24 hs27 fun b31 w29 hs30 => ?_
   have hs34 := St.f1 hs30
   refine ops_store (off := 0) (cs := [(.int .u64 0), (.int .u64 0), (.int .u64 0), (.int .u64 0), (.int .u64 0), (.int .u64 0), (.int .u64 0), (.int .u64 0), (.int .u64 0), (.int .u64 0)]) (vs := [(.int .u64 0), (.int .u64 0), (.int .u64 0), (.int .u64 0), (.int .u64 0), (.int .u64 0), (.int .u64 0), (.int .u64 0), (.int .u64 0), (.int .u64 0)]) hs34 (by kernel_rfl) (by simp) rfl (fun w32 hs33 => ?_)
   have hs35 : St B w l0 w32 [blk b28 (.cells [(.int .u64 0), (.int .u64 0), (.int .u64 0), (.int .u64 0), (.int .u64 0), (.int .u64 0), (.int .u64 0), (.int .u64 0), (.int .u64 0), (.int .u64 0)].toArray 78 (0, 0)), blk b31 (.cells [(.pointer none)].toArray 24 (0, 0)), blk b7 (.cells [(.int .i64 gw), (.int .i64 gi), (.int .i64 gb)].toArray 23 (0, 0)), blk b4 (.cells [(.pointer (some ⟨vb, 0, none⟩))].toArray 30 (0, 0)), viewA (ptr vb) img l] := hs33
   have hs38 := St.f1 hs35
   refine ops_store (off := 0) (cs := [(.pointer none)]) (vs := [(.pointer none)]) hs38 (by kernel_rfl) (by simp) rfl (fun w36 hs37 => ?_)
   have hs39 : St B w l0 w36 [blk b31 (.cells [(.pointer none)].toArray 24 (0, 0)), blk b28 (.cells [(.int .u64 0), (.int .u64 0), (.int .u64 0), (.int .u64 0), (.int .u64 0), (.int .u64 0), (.int .u64 0), (.int .u64 0), (.int .u64 0), (.int .u64 0)].toArray 78 (0, 0)), blk b7 (.cells [(.int .i64 gw), (.int .i64 gi), (.int .i64 gb)].toArray 23 (0, 0)), blk b4 (.cells [(.pointer (some ⟨vb, 0, none⟩))].toArray 30 (0, 0)), viewA (ptr vb) img l] := hs37
   refine zE 1 (hK20 _ _ ?_)
   refine W.seq fun K40 hK40 => ?_
   refine W.sr fun K41 hK41 => ?_
   refine zE 12 (hK41 _ _ ?_)
   refine W.cond_true true (by kernel_rfl) rfl ?_
   refine W.sr fun K42 hK42 => ?_
   refine zE 3 (hK42 _ _ ?_)
   refine W.ret (ret_seq ?_)
   obtain rfl := some_inj hm
   have hs43 := St.f4 hs39
   have hs44 := St.tk1 hs43
   refine ret_of (.tuple #[(.string ByteArray.empty), (.int .i64 11)]) (by kernel_rfl) ⟨_, ⟨rfl, rfl⟩, hs44⟩
  ·
   obtain ⟨h22p, hm⟩ := iN hm h22
   refine ops_call0 hs6 (by kernel_rfl) (dfile_ok (gw := gw) (gi := gi) (gb := gb) (n_ := n_) (hv := (hs6.entAt 2 rfl viewA_at)) (hP := h21p) (hK := h22p) B _) ?_
   rintro _ _ w46 ⟨b45, rfl, rfl⟩ hs47
   have hs48 := St.ap1 hs47
   refine zR 4 ?_
   refine zN [(.int .u64 0), (.int .u64 0), (.int .u64 0), (.int .u64 0), (.int .u64 0), (.int .u64 0), (.int .u64 0), (.int .u64 0), (.int .u64 0), (.int .u64 0)] 78 hs48 fun b51 w49 hs50 => ?_
   refine zN [(.pointer none)] 24 hs50 fun b54 w52 hs53 => ?_
   have hs57 := St.f1 hs53
   refine ops_store (off := 0) (cs := [(.int .u64 0), (.int .u64 0), (.int .u64 0), (.int .u64 0), (.int .u64 0), (.int .u64 0), (.int .u64 0), (.int .u64 0), (.int .u64 0), (.int .u64 0)]) (vs := [(.int .u64 ((igetM img l gw gi gb n_).1.k)), (.int .u64 ((igetM img l gw gi gb n_).1.l)), (.int .u64 ((igetM img l gw gi gb n_).1.o)), (.int .u64 ((igetM img l gw gi gb n_).1.s)), (.int .u64 ((igetM img l gw gi gb n_).1.a)), (.int .u64 ((igetM img l gw gi gb n_).1.b)), (.int .u64 ((igetM img l gw gi gb n_).1.c)), (.int .u64 ((igetM img l gw gi gb n_).1.d)), (.int .u64 ((igetM img l gw gi gb n_).1.e)), (.int .u64 ((igetM img l gw gi gb n_).1.m))]) hs57 (by kernel_rfl) (by simp) rfl (fun w55 hs56 => ?_)
   have hs58 : St B w l0 w55 [blk b51 (.cells [(.int .u64 ((igetM img l gw gi gb n_).1.k)), (.int .u64 ((igetM img l gw gi gb n_).1.l)), (.int .u64 ((igetM img l gw gi gb n_).1.o)), (.int .u64 ((igetM img l gw gi gb n_).1.s)), (.int .u64 ((igetM img l gw gi gb n_).1.a)), (.int .u64 ((igetM img l gw gi gb n_).1.b)), (.int .u64 ((igetM img l gw gi gb n_).1.c)), (.int .u64 ((igetM img l gw gi gb n_).1.d)), (.int .u64 ((igetM img l gw gi gb n_).1.e)), (.int .u64 ((igetM img l gw gi gb n_).1.m))].toArray 78 (0, 0)), blk b54 (.cells [(.pointer none)].toArray 24 (0, 0)), blk b45 (.cells [(.pointer (some ⟨vb, 0, none⟩)), (.int .i64 gw), (.int .i64 gi), (.int .i64 gb), (.int .i64 n_)].toArray 85 (0, 0)), blk b7 (.cells [(.int .i64 gw), (.int .i64 gi), (.int .i64 gb)].toArray 23 (0, 0)), blk b4 (.cells [(.pointer (some ⟨vb, 0, none⟩))].toArray 30 (0, 0)), viewA (ptr vb) img l] := hs56
   have hs61 := St.f1 hs58
   refine ops_store (off := 0) (cs := [(.pointer none)]) (vs := [(.pointer (some ⟨b45, 0, none⟩))]) hs61 (by kernel_rfl) (by simp) rfl (fun w59 hs60 => ?_)
   have hs62 : St B w l0 w59 [blk b54 (.cells [(.pointer (some ⟨b45, 0, none⟩))].toArray 24 (0, 0)), blk b51 (.cells [(.int .u64 ((igetM img l gw gi gb n_).1.k)), (.int .u64 ((igetM img l gw gi gb n_).1.l)), (.int .u64 ((igetM img l gw gi gb n_).1.o)), (.int .u64 ((igetM img l gw gi gb n_).1.s)), (.int .u64 ((igetM img l gw gi gb n_).1.a)), (.int .u64 ((igetM img l gw gi gb n_).1.b)), (.int .u64 ((igetM img l gw gi gb n_).1.c)), (.int .u64 ((igetM img l gw gi gb n_).1.d)), (.int .u64 ((igetM img l gw gi gb n_).1.e)), (.int .u64 ((igetM img l gw gi gb n_).1.m))].toArray 78 (0, 0)), blk b45 (.cells [(.pointer (some ⟨vb, 0, none⟩)), (.int .i64 gw), (.int .i64 gi), (.int .i64 gb), (.int .i64 n_)].toArray 85 (0, 0)), blk b7 (.cells [(.int .i64 gw), (.int .i64 gi), (.int .i64 gb)].toArray 23 (0, 0)), blk b4 (.cells [(.pointer (some ⟨vb, 0, none⟩))].toArray 30 (0, 0)), viewA (ptr vb) img l] := hs60
   refine zE 1 (hK20 _ _ ?_)
   refine W.seq fun K63 hK63 => ?_
   refine W.sr fun K64 hK64 => ?_
   refine zR 5 ?_
   refine zL ⟨b51, 3, none⟩ (.int .u64 ((igetM img l gw gi gb n_).1.s)) (hs62.cellAt 1 rfl rfl) ?_
   refine zR 3 ?_
   rcases Bool.eq_false_or_eq_true (decide (at_ ≥ (igetM img l gw gi gb n_).1.s)) with h65 | h65
   ·
    obtain ⟨h65p, hm⟩ := iY hm h65
    refine zS 32 h65 ?_
    refine zS 30 h65 ?_
    refine zS 31 h65 ?_
    refine zE 3 (hK64 _ _ ?_)
    refine W.cond_true true (by kernel_rfl) rfl ?_
    refine W.sr fun K66 hK66 => ?_
    refine zE 3 (hK66 _ _ ?_)
    refine W.ret (ret_seq ?_)
    obtain rfl := some_inj hm
    have hs67 := St.f5 hs62
    have hs68 := St.tk1 hs67
    refine ret_of (.tuple #[(.string ByteArray.empty), (.int .i64 0)]) (by kernel_rfl) ⟨_, ⟨rfl, rfl⟩, hs68⟩
   ·
    obtain ⟨h65p, hm⟩ := iN hm h65
    refine zS 32 h65 ?_
    refine zS 30 h65 ?_
    refine zS 31 h65 ?_
    refine zE 3 (hK64 _ _ ?_)
    refine W.cond (decide (sz_ = 0)) (by kernel_rfl) (fun h69 => ?_) (fun h69 => ?_)
    ·
     obtain ⟨h69p, hm⟩ := iY hm h69
     refine W.sr fun K70 hK70 => ?_
     refine zE 3 (hK70 _ _ ?_)
     refine W.ret (ret_seq ?_)
     obtain rfl := some_inj hm
     have hs71 := St.f5 hs62
     have hs72 := St.tk1 hs71
     refine ret_of (.tuple #[(.string ByteArray.empty), (.int .i64 0)]) (by kernel_rfl) ⟨_, ⟨rfl, rfl⟩, hs72⟩
    ·
     obtain ⟨h69p, hm⟩ := iN hm h69
     refine W.skip ?_
     refine hK63 _ _ ?_
     refine W.sr fun K73 hK73 => ?_
     refine zN [(.slice none 0 0)] 51 hs62 fun b76 w74 hs75 => ?_
     refine zD (hK73 _ _ ?_)
     refine W.sr fun K77 hK77 => ?_
     refine zR 1 ?_
     obtain ⟨h78, hm⟩ := need_some hm
     refine zI _ (wrap_i64 h78.1 h78.2) ?_
     refine zR 3 ?_
     refine zL ⟨b51, 3, none⟩ (.int .u64 ((igetM img l gw gi gb n_).1.s)) (hs75.cellAt 2 rfl rfl) ?_
     refine zR 1 ?_
     refine ops_val (v := .int .u64 (IntKind.u64.wrap ((igetM img l gw gi gb n_).1.s - at_))) (v' := .int .u64 (((igetM img l gw gi gb n_).1.s - at_) % 18446744073709551616)) (by kernel_rfl) (congrArg (Value.int .u64) (wrap_u64_mod _)) ?_
     refine zR 1 ?_
     refine ops_val (v := .int .u64 (IntKind.u64.wrap (at_ + (mn sz_ (((igetM img l gw gi gb n_).1.s - at_) % 18446744073709551616))))) (v' := .int .u64 ((at_ + (mn sz_ (((igetM img l gw gi gb n_).1.s - at_) % 18446744073709551616))) % 18446744073709551616)) (by kernel_rfl) (congrArg (Value.int .u64) (wrap_u64_mod _)) ?_
     obtain ⟨h79, hm⟩ := need_some hm
     refine zI _ (wrap_i64 h79.1 h79.2) ?_
     refine zR 1 ?_
     have hs80 := St.knil kU8 hs75
     obtain ⟨r81, h82, hm⟩ := bind_some hm
     have hs85 := St.f1 hs80
     have hs86 := St.f5 hs85
     have hs87 := St.f6 hs86
     have hs88 := St.f7 hs87
     have hs89 := St.f7 hs88
     have hs90 := St.f6 hs89
     refine ops_call7 hs90 (by kernel_rfl) (dreadP_walk (mb := b45) (vb := vb) (mc := b54) (vc := b4) (gc := b7) (oc := b76) (oa := none) (occ := 0) (img := img) (l := l) (gw := gw) (gi := gi) (gb := gb) (n_ := n_) (f_ := at_) (to_ := ((at_ + (mn sz_ (((igetM img l gw gi gb n_).1.s - at_) % 18446744073709551616))) % 18446744073709551616)) (out := []) (hm := h82) B _) ?_
     rintro _ _ w91 ⟨a83, c84, rfl, rfl⟩ hs92
     have hs93 := St.ap7 hs92
     refine zE 1 (hK77 _ _ ?_)
     refine W.seq fun K94 hK94 => ?_
     refine W.sr fun K95 hK95 => ?_
     refine zE 2 (hK95 _ _ ?_)
     refine W.cond (!decide (r81.1 = 0)) (by kernel_rfl) (fun h96 => ?_) (fun h96 => ?_)
     rotate_left
     ·
      have h96p : r81.1 = 0 := of_decide_eq_true (bnot_false h96)
      replace hm := ite_yes hm h96p
      refine W.skip ?_
      refine hK94 _ _ ?_
      refine W.sr fun K97 hK97 => ?_
      refine zL ⟨b76, 0, none⟩ (.slice a83 r81.2.length c84) (hs93.cellAt 5 rfl rfl) ?_
      refine ops_R (runs_bytesStr (a := a83) (n := r81.2.length) (c := c84) (xs := r81.2) (St.kcells kU8 hs93 6 rfl) rfl (by kernel_rfl)) ?_
      refine zE 2 (hK97 _ _ ?_)
      refine W.ret ?_
      obtain rfl := some_inj hm
      have hs98 := St.f2 hs93
      have hs99 := St.tk1 hs98
      refine ret_of (.tuple #[(.string (strOfNums r81.2)), (.int .i64 0)]) (by kernel_rfl) ⟨_, ⟨rfl, rfl⟩, hs99⟩
     ·
      have h96p : ¬ (r81.1 = 0) := of_decide_eq_false (bnot_true h96)
      replace hm := ite_no hm h96p
      refine W.sr fun K100 hK100 => ?_
      refine zE 3 (hK100 _ _ ?_)
      refine W.ret (ret_seq ?_)
      obtain rfl := some_inj hm
      have hs101 := St.f2 hs93
      have hs102 := St.tk1 hs101
      refine ret_of (.tuple #[(.string ByteArray.empty), (.int .i64 r81.1)]) (by kernel_rfl) ⟨_, ⟨rfl, rfl⟩, hs102⟩
 ·
  obtain ⟨h21p, hm⟩ := iN hm h21
  refine zC00 hs6 (dfile_err (gw := gw) (gi := gi) (gb := gb) (n_ := n_) (hv := (hs6.entAt 2 rfl viewA_at)) (hN := h21p) B _) fun w103 hs105 => ?_
  refine zR 4 ?_
  refine zN [(.int .u64 0), (.int .u64 0), (.int .u64 0), (.int .u64 0), (.int .u64 0), (.int .u64 0), (.int .u64 0), (.int .u64 0), (.int .u64 0), (.int .u64 0)] 78 hs105 fun b108 w106 hs107 => ?_
  refine zN [(.pointer none)] 24 hs107 fun b111 w109 hs110 => ?_
  have hs114 := St.f1 hs110
  refine ops_store (off := 0) (cs := [(.int .u64 0), (.int .u64 0), (.int .u64 0), (.int .u64 0), (.int .u64 0), (.int .u64 0), (.int .u64 0), (.int .u64 0), (.int .u64 0), (.int .u64 0)]) (vs := [(.int .u64 0), (.int .u64 0), (.int .u64 0), (.int .u64 0), (.int .u64 0), (.int .u64 0), (.int .u64 0), (.int .u64 0), (.int .u64 0), (.int .u64 0)]) hs114 (by kernel_rfl) (by simp) rfl (fun w112 hs113 => ?_)
  have hs115 : St B w l0 w112 [blk b108 (.cells [(.int .u64 0), (.int .u64 0), (.int .u64 0), (.int .u64 0), (.int .u64 0), (.int .u64 0), (.int .u64 0), (.int .u64 0), (.int .u64 0), (.int .u64 0)].toArray 78 (0, 0)), blk b111 (.cells [(.pointer none)].toArray 24 (0, 0)), blk b7 (.cells [(.int .i64 gw), (.int .i64 gi), (.int .i64 gb)].toArray 23 (0, 0)), blk b4 (.cells [(.pointer (some ⟨vb, 0, none⟩))].toArray 30 (0, 0)), viewA (ptr vb) img l] := hs113
  have hs118 := St.f1 hs115
  refine ops_store (off := 0) (cs := [(.pointer none)]) (vs := [(.pointer none)]) hs118 (by kernel_rfl) (by simp) rfl (fun w116 hs117 => ?_)
  have hs119 : St B w l0 w116 [blk b111 (.cells [(.pointer none)].toArray 24 (0, 0)), blk b108 (.cells [(.int .u64 0), (.int .u64 0), (.int .u64 0), (.int .u64 0), (.int .u64 0), (.int .u64 0), (.int .u64 0), (.int .u64 0), (.int .u64 0), (.int .u64 0)].toArray 78 (0, 0)), blk b7 (.cells [(.int .i64 gw), (.int .i64 gi), (.int .i64 gb)].toArray 23 (0, 0)), blk b4 (.cells [(.pointer (some ⟨vb, 0, none⟩))].toArray 30 (0, 0)), viewA (ptr vb) img l] := hs117
  refine zR 1 ?_
  obtain ⟨r120, h121, hm⟩ := bind_some hm
  replace h121 := some_inj h121
  refine ops_set 14 (v := .int .i64 r120) (Eq.trans (by kernel_rfl) (congrArg (Value.int .i64) h121)) ?_
  refine zD (hK20 _ _ ?_)
  refine W.seq fun K122 hK122 => ?_
  refine W.sr fun K123 hK123 => ?_
  refine zR 3 ?_
  rcases Bool.eq_false_or_eq_true (!decide (r120 = 0)) with h124 | h124
  rotate_left
  ·
   have h124p : r120 = 0 := of_decide_eq_true (bnot_false h124)
   exact absurd h124p (fun e_ => h21p (h121.trans e_))
  ·
   have h124p : ¬ (r120 = 0) := of_decide_eq_false (bnot_true h124)
   replace hm := ite_no hm h124p
   refine zS 26 h124 ?_
   refine zS 25 h124 ?_
   refine zE 9 (hK123 _ _ ?_)
   refine W.cond_true true (by kernel_rfl) rfl ?_
   refine W.sr fun K125 hK125 => ?_
   refine zE 3 (hK125 _ _ ?_)
   refine W.ret (ret_seq ?_)
   obtain rfl := some_inj hm
   have hs126 := St.f4 hs119
   have hs127 := St.tk1 hs126
   refine ret_of (.tuple #[(.string ByteArray.empty), (.int .i64 r120)]) (by kernel_rfl) ⟨_, ⟨rfl, rfl⟩, hs127⟩

end Go.Proofs.YtmmclabkkigiaaaDoor

namespace Go.Proofs.YtmmclabkkigiaaaDoor
open Go Go.RowKit
set_option linter.unusedVariables false
set_option linter.unusedSimpArgs false

def byt (w : Int) (j : Nat) : Int := (((w.toNat >>> (8 * j)) % 2 ^ 8 : Nat) : Int)
theorem byt_range (w : Int) (j : Nat) : 0 ≤ byt w j ∧ byt w j ≤ 255 := by
  unfold byt
  have : (w.toNat >>> (8 * j)) % 2 ^ 8 < 2 ^ 8 := Nat.mod_lt _ (by decide)
  omega
theorem byt_bit {w : Int} {j t : Nat} : (byt w j).toNat.testBit t = (decide (t < 8) && bitI w (8 * j + t)) := by
  unfold byt bitI
  rw [Int.toNat_natCast, Nat.testBit_mod_two_pow, Nat.testBit_shiftRight]
theorem byte_ext {x y : Int} (hx : 0 ≤ x ∧ x ≤ 255) (hy : 0 ≤ y ∧ y ≤ 255) (h : ∀ t, t < 8 → x.toNat.testBit t = y.toNat.testBit t) : x = y := by
  have big : ∀ z : Int, 0 ≤ z ∧ z ≤ 255 → ∀ t, 8 ≤ t → z.toNat.testBit t = false := fun z hz t ht =>
    Nat.testBit_lt_two_pow (Nat.lt_of_lt_of_le (show z.toNat < 2 ^ 8 by omega) (Nat.pow_le_pow_right (by omega) ht))
  have e : x.toNat = y.toNat := Nat.eq_of_testBit_eq fun t => by
    by_cases ht : t < 8
    · exact h t ht
    · rw [big x hx t (by omega), big y hy t (by omega)]
  omega
theorem byt_shr {w : Int} {j : Nat} (hw : U64 w) (hj : j < 8) : (shrK .u64 w ((j : Int) * 8)) % 256 = byt w j := by
  obtain ⟨n, rfl⟩ := Int.eq_ofNat_of_zero_le hw.1
  unfold shrK byt
  rw [show ((j : Int) * 8).toNat = 8 * j by omega, show IntKind.u64.bits = 64 from rfl, Nat.min_eq_left (by omega)]
  have e : ((2 : Int) ^ (8 * j)) = ((2 ^ (8 * j) : Nat) : Int) := by simp
  rw [e, Int.fdiv_eq_ediv_of_nonneg _ (Int.natCast_nonneg _), Int.toNat_natCast, Nat.shiftRight_eq_div_pow]
  omega
theorem shl_byte {b : Int} {j : Nat} (hb : 0 ≤ b ∧ b ≤ 255) (hj : j < 8) : U64 (shlK .u64 b (8 * (j : Int))) ∧ ∀ t, bitI (shlK .u64 b (8 * (j : Int))) t = (decide (8 * j ≤ t) && b.toNat.testBit (t - 8 * j)) := by
  obtain ⟨n, rfl⟩ := Int.eq_ofNat_of_zero_le hb.1
  have hn : n ≤ 255 := by omega
  have hp : n * 2 ^ (8 * j) < 2 ^ 64 := by
    have h1 : (2 : Nat) ^ (8 * j) ≤ 2 ^ 56 := Nat.pow_le_pow_right (by omega) (by omega)
    calc n * 2 ^ (8 * j) ≤ 255 * 2 ^ 56 := Nat.mul_le_mul hn h1
      _ < 2 ^ 64 := by decide
  have e : shlK .u64 ((n : Nat) : Int) (8 * (j : Int)) = ((n * 2 ^ (8 * j) : Nat) : Int) := by
    unfold shlK
    rw [show (8 * (j : Int)).toNat = 8 * j by omega, show IntKind.u64.bits = 64 from rfl, Nat.min_eq_left (by omega)]
    have e2 : ((n : Nat) : Int) * 2 ^ (8 * j) = ((n * 2 ^ (8 * j) : Nat) : Int) := by simp
    rw [e2]
    exact wrap_u64 (Int.natCast_nonneg _) (by omega)
  rw [e]
  refine ⟨⟨Int.natCast_nonneg _, by omega⟩, fun t => ?_⟩
  unfold bitI
  rw [Int.toNat_natCast, Int.toNat_natCast, Nat.testBit_mul_two_pow]
theorem byt_put {w b : Int} {j : Nat} (hw : U64 w) (hb : 0 ≤ b ∧ b ≤ 255) (hj : j < 8) :
    U64 (bits .or .u64 (bits .andNot .u64 w (shlK .u64 255 (8 * (j : Int)))) (shlK .u64 b (8 * (j : Int)))) ∧
      ∀ i, i < 8 → byt (bits .or .u64 (bits .andNot .u64 w (shlK .u64 255 (8 * (j : Int)))) (shlK .u64 b (8 * (j : Int)))) i = if i = j then b else byt w i := by
  obtain ⟨a1, a2⟩ := shl_byte (b := 255) (j := j) ⟨by omega, by omega⟩ hj
  obtain ⟨b1, b2⟩ := shl_byte hb hj
  have h1 := bits_u64 (op := .andNot) hw a1
  refine ⟨bits_u64 h1 b1, fun i hi => ?_⟩
  refine byte_ext (byt_range _ _) (by split; exact hb; exact byt_range _ _) fun t ht => ?_
  rw [byt_bit, decide_eq_true ht, Bool.true_and, bitI_or h1 b1, bitI_andNot hw a1, a2, b2]
  have e255 : (255 : Int).toNat = 2 ^ 8 - 1 := rfl
  rw [e255, Nat.testBit_two_pow_sub_one]
  by_cases e : i = j
  · subst e
    rw [if_pos rfl, decide_eq_true (show 8 * i ≤ 8 * i + t by omega), decide_eq_true (show 8 * i + t - 8 * i < 8 by omega), show 8 * i + t - 8 * i = t by omega]
    simp
  · rw [if_neg e, byt_bit, decide_eq_true ht, Bool.true_and]
    by_cases hlt : 8 * j ≤ 8 * i + t
    · rw [decide_eq_true hlt, decide_eq_false (show ¬ 8 * i + t - 8 * j < 8 by omega)]
      have hbb : b.toNat.testBit (8 * i + t - 8 * j) = false := Nat.testBit_lt_two_pow (Nat.lt_of_lt_of_le (show b.toNat < 2 ^ 8 by omega) (Nat.pow_le_pow_right (by omega) (by omega)))
      rw [hbb]
      simp
    · rw [decide_eq_false hlt]
      simp
theorem byt_zero (j : Nat) : byt 0 j = 0 := by
  unfold byt
  simp

def bt (img : List Int) (l : List (Int × Int)) (base : Int) (j : Nat) : Int := byt (vget img l (base + ((j / 8 : Nat) : Int))) (j % 8)
section
variable {gi gb : Int} {img : List Int} {l : List (Int × Int)}
theorem dblock_eq (h : Dk gi gb img l) {b : Int} (hb : 0 ≤ b ∧ b < gb) : dblock_M img l 1 gi gb b = some ((List.range 64).map fun j => if b = 0 then 0 else bt img l (488 + 16 * gi + 8 * b) j) := by
  have hg := h.g
  unfold dblock_M
  by_cases h0 : b = 0
  · rw [if_pos h0]
    refine need_of (by simp) ?_
    simp only [h0, if_true]
    rfl
  rw [if_neg h0]
  have hp := place9_in (n := b) h.may (by omega)
  refine iter_run (fun s => 0 ≤ s.2 ∧ s.2 ≤ 64 ∧ s.1.length = 64 ∧ ∀ j : Nat, j < 64 → s.1.getD j 0 = if (j : Int) < s.2 then bt img l (488 + 16 * gi + 8 * b) j else 0) (fun s => (64 - s.2).toNat) ?_ _ _ ⟨by simp, by simp, by simp, fun j hj => by rw [if_neg (by simp only; omega), List.getD_eq_getElem?_getD, List.getElem?_replicate]; split <;> rfl⟩ (fuel_lt (by simp only; omega))
  rintro k ⟨q, p⟩ ⟨h1, h2, h3, h4⟩ ih
  simp only at h1 h2 h3 h4 ih
  unfold dblock_B0
  simp only
  by_cases hp64 : p < 64
  · rw [if_pos hp64, hp]
    obtain ⟨pn, rfl⟩ := Int.eq_ofNat_of_zero_le h1
    rw [show ((pn : Nat) : Int).tdiv 8 = ((pn / 8 : Nat) : Int) by rw [Int.tdiv_eq_ediv_of_nonneg h1]; omega, show ((pn : Nat) : Int).tmod 8 = ((pn % 8 : Nat) : Int) by rw [Int.tmod_eq_emod_of_nonneg h1]; omega, byt_shr (h.vr _) (by omega)]
    refine need_of (by omega) (need_of (by omega) (need_of (by omega) (need_of (by omega) (need_of (by omega) (need_of (by omega) (need_of (by omega) (ih _ ⟨by simp only; omega, by simp only; omega, by simp only [List.length_set]; exact h3, fun j hj => ?_⟩ (by simp only; omega))))))))
    simp only
    rw [List.getD_eq_getElem?_getD, List.getElem?_set, Int.toNat_natCast]
    by_cases e : pn = j
    · subst e
      rw [if_pos rfl, if_pos (by omega), if_pos (by omega)]
      rfl
    · rw [if_neg e, ← List.getD_eq_getElem?_getD, h4 j hj]
      by_cases e2 : (j : Int) < (pn : Int)
      · rw [if_pos e2, if_pos (by omega)]
      · rw [if_neg e2, if_neg (by omega)]
  · rw [if_neg hp64]
    refine need_of (by omega) (congrArg some ?_)
    refine eq_of_getD 0 (by simp [h3]) fun j hj => ?_
    rw [h4 j (by omega), if_pos (by omega)]
    simp only [List.getD, List.getElem?_map, List.getElem?_range (show j < 64 by omega), Option.map_some, Option.getD_some, if_neg h0]
end
end Go.Proofs.YtmmclabkkigiaaaDoor
