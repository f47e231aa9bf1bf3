/- Texts, one behind the other: A5j, A5k, K15, A5l, A5W, P5w, PEa, Sy, K7, Lo, LoS, Ro15, ClA, ClB, ClC, ClD, ClE. -/
import Derived.Test.YtmmclabkkigiaaaGreatDoorRows
import Derived.Test.YtmmclabkkigiaaaGreatDoorCards
import Derived.Laws.Concat
import Derived.OpenShut
import Derived.Test.YtmmclabkkigiaaaGreatDoorChecked
import Derived.Test.YtmmclabkkigiaaaGreatDoorQEN5
set_option linter.unusedVariables false
set_option linter.unusedSimpArgs false
set_option linter.unusedVariables false
set_option maxRecDepth 20000
set_option maxHeartbeats 8000000
namespace Go.Proofs.YtmmclabkkigiaaaGreatDoor
open Go Go.RowKit
set_option linter.unusedSimpArgs false
set_option linter.unusedVariables false

def eAdd_M (img : List Int) (l : List (Int × Int)) (gw : Int) (gi : Int) (gb : Int) (n_ : Int) (xn_ : ByteArray) (xi_ : Int) : Option (Int × List (Int × Int)) :=
 (emay2_M gi xi_).bind fun r10 =>
if r10 = 0 then (if (igetM img l gw gi gb n_).2 = 0 then (if (igetM img l gw gi gb n_).1.k = 2 then ((tfind_M img l gw gi gb n_ xn_).bind fun r34 =>
if r34.2.2.2 = 0 then (some (9, l)) else (if r34.2.2.2 = 6 then ((tadd_M img l gw gi gb n_ xn_ xi_).bind fun r56 =>
some (r56.1, r56.2)) else (some (r34.2.2.2, l)))) else (some (10, l))) else ((some ((igetM img l gw gi gb n_).2)).bind fun r91 =>
if r91 = 0 then (none) else (some (r91, l)))) else (some (r10, l))

theorem eAdd_walk {img : List Int} {l : List (Int × Int)} {gw : Int} {gi : Int} {gb : Int} {n_ : Int} {xn_ : ByteArray} {xi_ : Int} {vb : Nat} {r : Int × List (Int × Int)} (B : Nat) (w : World) (hG : 1 < B) (hT : CellsAt (some ⟨1, 0, none⟩) tab8 w) (hm : eAdd_M img l gw gi gb n_ xn_ xi_ = some r) : Spec Tryz.prog 19 #[(.pointer (some ⟨vb, 0, none⟩)), (.agg #[(.int .i64 gw), (.int .i64 gi), (.int .i64 gb)]), (.int .i64 n_), (.agg #[(.string xn_), (.int .i64 xi_)])] B w [viewA (ptr vb) img l] (fun v H' => v = .int .i64 r.1 ∧ H' = [viewA (ptr vb) img r.2]) := by
 refine spec_W Tryz.func19 rfl fun l0 hs => ?_
 unfold eAdd_M at hm
 refine W.sr fun K1 hK1 => ?_
 refine zN [(.int .i64 gw), (.int .i64 gi), (.int .i64 gb)] 31 hs fun b4 w2 hs3 => ?_
 refine zN [(.string xn_), (.int .i64 xi_)] 33 hs3 fun b7 w5 hs6 => ?_
 refine zE 1 (hK1 _ _ ?_)
 refine W.seq fun K8 hK8 => ?_
 refine W.sr fun K9 hK9 => ?_
 refine zR 1 ?_
 refine ops_R (runs_loadAgg (ad := ⟨b4, 0, none⟩) (cs := [(.int .i64 gw), (.int .i64 gi), (.int .i64 gb)]) (by kernel_rfl) (cells_sub (hs6.heapAt 1 rfl) rfl)) ?_
 refine ops_R (runs_loadAgg (ad := ⟨b7, 0, none⟩) (cs := [(.string xn_), (.int .i64 xi_)]) (by kernel_rfl) (cells_sub (hs6.heapAt 0 rfl) rfl)) ?_
 obtain ⟨r10, h11, hm⟩ := bind_some hm
 refine zC00 hs6 (emay2_walk (vb := vb) (gw := gw) (gi := gi) (gb := gb) (xn_ := xn_) (xi_ := xi_) (hm := h11) B _) fun w12 hs14 => ?_
 refine zE 1 (hK9 _ _ ?_)
 refine W.sr fun K15 hK15 => ?_
 refine zE 2 (hK15 _ _ ?_)
 refine W.cond (!decide (r10 = 0)) (by kernel_rfl) (fun h16 => ?_) (fun h16 => ?_)
 rotate_left
 ·
  have h16p : r10 = 0 := of_decide_eq_true (bnot_false h16)
  replace hm := ite_yes hm h16p
  refine W.skip ?_
  refine hK8 _ _ ?_
  refine W.sr fun K18 hK18 => ?_
  refine zR 1 ?_
  refine ops_R (runs_loadAgg (ad := ⟨b4, 0, none⟩) (cs := [(.int .i64 gw), (.int .i64 gi), (.int .i64 gb)]) (by kernel_rfl) (cells_sub (hs14.heapAt 1 rfl) rfl)) ?_
  refine zR 1 ?_
  rcases Bool.eq_false_or_eq_true (decide ((igetM img l gw gi gb n_).2 = 0)) with h19 | h19
  ·
   obtain ⟨h19p, hm⟩ := iY hm h19
   rcases Bool.eq_false_or_eq_true (decide ((igetM img l gw gi gb n_).1.k = 2)) with h20 | h20
   ·
    obtain ⟨h20p, hm⟩ := iY hm h20
    refine ops_call0 hs14 (by kernel_rfl) (eopen_ok (gw := gw) (gi := gi) (gb := gb) (n_ := n_) (hv := (hs14.entAt 2 rfl viewA_at)) (hP := h19p) (hK := h20p) B _) ?_
    rintro _ _ w22 ⟨b21, rfl, rfl⟩ hs23
    have hs24 := St.ap1 hs23
    refine zR 3 ?_
    refine zN [(.pointer none), (.int .i64 0), (.int .i64 0), (.int .i64 0), (.pointer none)] 97 hs24 fun b27 w25 hs26 => ?_
    refine ops_store (off := 0) (cs := [(.pointer none), (.int .i64 0), (.int .i64 0), (.int .i64 0), (.pointer none)]) (vs := [(.pointer (some ⟨vb, 0, none⟩)), (.int .i64 gw), (.int .i64 gi), (.int .i64 gb), (.pointer (some ⟨b21, 0, none⟩))]) hs26 (by kernel_rfl) (by simp) rfl (fun w28 hs29 => ?_)
    have hs30 : St B w l0 w28 [blk b27 (.cells [(.pointer (some ⟨vb, 0, none⟩)), (.int .i64 gw), (.int .i64 gi), (.int .i64 gb), (.pointer (some ⟨b21, 0, none⟩))].toArray 97 (0, 0)), blk b21 (.cells [(.pointer (some ⟨vb, 0, none⟩)), (.int .i64 gw), (.int .i64 gi), (.int .i64 gb), (.int .i64 n_)].toArray 164 (0, 0)), blk b7 (.cells [(.string xn_), (.int .i64 xi_)].toArray 33 (0, 0)), blk b4 (.cells [(.int .i64 gw), (.int .i64 gi), (.int .i64 gb)].toArray 31 (0, 0)), viewA (ptr vb) img l] := hs29
    refine zE 1 (hK18 _ _ ?_)
    refine W.seq fun K31 hK31 => ?_
    refine W.sr fun K32 hK32 => ?_
    refine zE 2 (hK32 _ _ ?_)
    refine W.cond_false false (by kernel_rfl) rfl ?_
    refine W.skip ?_
    refine hK31 _ _ ?_
    refine W.sr fun K33 hK33 => ?_
    refine ops_R (runs_loadAgg (ad := ⟨b27, 0, none⟩) (cs := [(.pointer (some ⟨vb, 0, none⟩)), (.int .i64 gw), (.int .i64 gi), (.int .i64 gb), (.pointer (some ⟨b21, 0, none⟩))]) (by kernel_rfl) (cells_sub (hs30.heapAt 0 rfl) rfl)) ?_
    refine zR 1 ?_
    refine zL ⟨b7, 0, none⟩ (.string xn_) (hs30.cellAt 2 rfl rfl) ?_
    obtain ⟨r34, h35, hm⟩ := bind_some hm
    have hs36 := St.f4 hs30
    have hs37 := St.f2 hs36
    refine zC22 hs37 (tfind_walk (mb := b21) (vb := vb) (tx_ := xn_) (img := img) (l := l) (gw := gw) (gi := gi) (gb := gb) (n_ := n_) (hm := h35) B _) fun w38 hs40 => ?_
    refine zR 4 ?_
    refine zN [(.string ByteArray.empty), (.int .i64 0)] 33 hs40 fun b43 w41 hs42 => ?_
    refine ops_store (off := 0) (cs := [(.string ByteArray.empty), (.int .i64 0)]) (vs := [(.string r34.1), (.int .i64 r34.2.1)]) hs42 (by kernel_rfl) (by simp) rfl (fun w44 hs45 => ?_)
    have hs46 : St B w l0 w44 [blk b43 (.cells [(.string r34.1), (.int .i64 r34.2.1)].toArray 33 (0, 0)), blk b21 (.cells [(.pointer (some ⟨vb, 0, none⟩)), (.int .i64 gw), (.int .i64 gi), (.int .i64 gb), (.int .i64 n_)].toArray 164 (0, 0)), viewA (ptr vb) img l, blk b27 (.cells [(.pointer (some ⟨vb, 0, none⟩)), (.int .i64 gw), (.int .i64 gi), (.int .i64 gb), (.pointer (some ⟨b21, 0, none⟩))].toArray 97 (0, 0)), blk b7 (.cells [(.string xn_), (.int .i64 xi_)].toArray 33 (0, 0)), blk b4 (.cells [(.int .i64 gw), (.int .i64 gi), (.int .i64 gb)].toArray 31 (0, 0))] := hs45
    refine zE 2 (hK33 _ _ ?_)
    refine W.sr fun K47 hK47 => ?_
    refine zE 1 (hK47 _ _ ?_)
    refine W.block ?_
    refine W.sr fun K48 hK48 => ?_
    refine zE 2 (hK48 _ _ ?_)
    refine W.cond (decide (r34.2.2.2 = 0)) (by kernel_rfl) (fun h49 => ?_) (fun h49 => ?_)
    ·
     obtain ⟨h49p, hm⟩ := iY hm h49
     refine W.sr fun K50 hK50 => ?_
     refine zE 1 (hK50 _ _ ?_)
     refine W.ret (ret_block ?_)
     obtain rfl := some_inj hm
     have hs51 := St.f2 hs46
     have hs52 := St.tk1 hs51
     refine ret_of (.int .i64 9) (by kernel_rfl) ⟨_, ⟨rfl, rfl⟩, hs52⟩
    ·
     obtain ⟨h49p, hm⟩ := iN hm h49
     refine W.sr fun K53 hK53 => ?_
     refine zE 2 (hK53 _ _ ?_)
     refine W.cond (decide (r34.2.2.2 = 6)) (by kernel_rfl) (fun h54 => ?_) (fun h54 => ?_)
     ·
      obtain ⟨h54p, hm⟩ := iY hm h54
      refine W.sr fun K55 hK55 => ?_
      refine ops_R (runs_loadAgg (ad := ⟨b27, 0, none⟩) (cs := [(.pointer (some ⟨vb, 0, none⟩)), (.int .i64 gw), (.int .i64 gi), (.int .i64 gb), (.pointer (some ⟨b21, 0, none⟩))]) (by kernel_rfl) (cells_sub (hs46.heapAt 3 rfl) rfl)) ?_
      refine ops_R (runs_loadAgg (ad := ⟨b7, 0, none⟩) (cs := [(.string xn_), (.int .i64 xi_)]) (by kernel_rfl) (cells_sub (hs46.heapAt 4 rfl) rfl)) ?_
      obtain ⟨r56, h57, hm⟩ := bind_some hm
      have hs58 := St.f2 hs46
      have hs59 := St.f2 hs58
      refine zC22 hs59 (tadd_walk (mb := b21) (vb := vb) (hG := hG) (hT := (hs46.oldCellsB hG hT)) (xn_ := xn_) (xi_ := xi_) (img := img) (l := l) (gw := gw) (gi := gi) (gb := gb) (n_ := n_) (hm := h57) B _) fun w60 hs62 => ?_
      refine zE 1 (hK55 _ _ ?_)
      refine W.ret (ret_block ?_)
      obtain rfl := some_inj hm
      have hs63 := St.f1 hs62
      have hs64 := St.tk1 hs63
      refine ret_of (.int .i64 r56.1) (by kernel_rfl) ⟨_, ⟨rfl, rfl⟩, hs64⟩
     ·
      obtain ⟨h54p, hm⟩ := iN hm h54
      refine W.sr fun K65 hK65 => ?_
      refine zE 2 (hK65 _ _ ?_)
      refine W.ret (ret_block ?_)
      obtain rfl := some_inj hm
      have hs66 := St.f2 hs46
      have hs67 := St.tk1 hs66
      refine ret_of (.int .i64 r34.2.2.2) (by kernel_rfl) ⟨_, ⟨rfl, rfl⟩, hs67⟩
   ·
    obtain ⟨h20p, hm⟩ := iN hm h20
    refine zC00 hs14 (eopen_dir (gw := gw) (gi := gi) (gb := gb) (n_ := n_) (hv := (hs14.entAt 2 rfl viewA_at)) (hP := h19p) (hK := h20p) B _) fun w68 hs70 => ?_
    refine zR 3 ?_
    refine zN [(.pointer none), (.int .i64 0), (.int .i64 0), (.int .i64 0), (.pointer none)] 97 hs70 fun b73 w71 hs72 => ?_
    refine ops_store (off := 0) (cs := [(.pointer none), (.int .i64 0), (.int .i64 0), (.int .i64 0), (.pointer none)]) (vs := [(.pointer none), (.int .i64 0), (.int .i64 0), (.int .i64 0), (.pointer none)]) hs72 (by kernel_rfl) (by simp) rfl (fun w74 hs75 => ?_)
    have hs76 : St B w l0 w74 [blk b73 (.cells [(.pointer none), (.int .i64 0), (.int .i64 0), (.int .i64 0), (.pointer none)].toArray 97 (0, 0)), blk b7 (.cells [(.string xn_), (.int .i64 xi_)].toArray 33 (0, 0)), blk b4 (.cells [(.int .i64 gw), (.int .i64 gi), (.int .i64 gb)].toArray 31 (0, 0)), viewA (ptr vb) img l] := hs75
    refine zE 1 (hK18 _ _ ?_)
    refine W.seq fun K77 hK77 => ?_
    refine W.sr fun K78 hK78 => ?_
    refine zE 2 (hK78 _ _ ?_)
    refine W.cond_true true (by kernel_rfl) rfl ?_
    refine W.sr fun K79 hK79 => ?_
    refine zE 2 (hK79 _ _ ?_)
    refine W.ret (ret_seq ?_)
    obtain rfl := some_inj hm
    have hs80 := St.f3 hs76
    have hs81 := St.tk1 hs80
    refine ret_of (.int .i64 10) (by kernel_rfl) ⟨_, ⟨rfl, rfl⟩, hs81⟩
  ·
   obtain ⟨h19p, hm⟩ := iN hm h19
   refine zC00 hs14 (eopen_err (gw := gw) (gi := gi) (gb := gb) (n_ := n_) (hv := (hs14.entAt 2 rfl viewA_at)) (hN := h19p) B _) fun w82 hs84 => ?_
   refine zR 3 ?_
   refine zN [(.pointer none), (.int .i64 0), (.int .i64 0), (.int .i64 0), (.pointer none)] 97 hs84 fun b87 w85 hs86 => ?_
   refine ops_store (off := 0) (cs := [(.pointer none), (.int .i64 0), (.int .i64 0), (.int .i64 0), (.pointer none)]) (vs := [(.pointer none), (.int .i64 0), (.int .i64 0), (.int .i64 0), (.pointer none)]) hs86 (by kernel_rfl) (by simp) rfl (fun w88 hs89 => ?_)
   have hs90 : St B w l0 w88 [blk b87 (.cells [(.pointer none), (.int .i64 0), (.int .i64 0), (.int .i64 0), (.pointer none)].toArray 97 (0, 0)), blk b7 (.cells [(.string xn_), (.int .i64 xi_)].toArray 33 (0, 0)), blk b4 (.cells [(.int .i64 gw), (.int .i64 gi), (.int .i64 gb)].toArray 31 (0, 0)), viewA (ptr vb) img l] := hs89
   refine zR 1 ?_
   obtain ⟨r91, h92, hm⟩ := bind_some hm
   replace h92 := some_inj h92
   refine ops_set 11 (v := .int .i64 r91) (Eq.trans (by kernel_rfl) (congrArg (Value.int .i64) h92)) ?_
   refine zD (hK18 _ _ ?_)
   refine W.seq fun K93 hK93 => ?_
   refine W.sr fun K94 hK94 => ?_
   refine zE 2 (hK94 _ _ ?_)
   refine W.cond (!decide (r91 = 0)) (by kernel_rfl) (fun h95 => ?_) (fun h95 => ?_)
   rotate_left
   ·
    have h95p : r91 = 0 := of_decide_eq_true (bnot_false h95)
    exact absurd h95p (fun e_ => h19p (h92.trans e_))
   ·
    have h95p : ¬ (r91 = 0) := of_decide_eq_false (bnot_true h95)
    replace hm := ite_no hm h95p
    refine W.sr fun K96 hK96 => ?_
    refine zE 2 (hK96 _ _ ?_)
    refine W.ret (ret_seq ?_)
    obtain rfl := some_inj hm
    have hs97 := St.f3 hs90
    have hs98 := St.tk1 hs97
    refine ret_of (.int .i64 r91) (by kernel_rfl) ⟨_, ⟨rfl, rfl⟩, hs98⟩
 ·
  have h16p : ¬ (r10 = 0) := of_decide_eq_false (bnot_true h16)
  replace hm := ite_no hm h16p
  refine W.sr fun K99 hK99 => ?_
  refine zE 2 (hK99 _ _ ?_)
  refine W.ret (ret_seq ?_)
  obtain rfl := some_inj hm
  have hs100 := St.f2 hs14
  have hs101 := St.tk1 hs100
  refine ret_of (.int .i64 r10) (by kernel_rfl) ⟨_, ⟨rfl, rfl⟩, hs101⟩

def eRemove_M (img : List Int) (l : List (Int × Int)) (gw : Int) (gi : Int) (gb : Int) (n_ : Int) (tx_ : ByteArray) : Option (Int × List (Int × Int)) :=
 if (igetM img l gw gi gb n_).2 = 0 then (if (igetM img l gw gi gb n_).1.k = 2 then ((tfind_M img l gw gi gb n_ tx_).bind fun r22 =>
if r22.2.2.2 = 0 then ((bDrop_M img l gw gi gb n_ r22.2.2.1).bind fun r39 =>
some (r39.1, r39.2)) else (some (r22.2.2.2, l))) else (some (10, l))) else ((some ((igetM img l gw gi gb n_).2)).bind fun r74 =>
if r74 = 0 then (none) else (some (r74, l)))

theorem eRemove_walk {img : List Int} {l : List (Int × Int)} {gw : Int} {gi : Int} {gb : Int} {n_ : Int} {tx_ : ByteArray} {vb : Nat} {r : Int × List (Int × Int)} (B : Nat) (w : World) (hm : eRemove_M img l gw gi gb n_ tx_ = some r) : Spec Tryz.prog 21 #[(.pointer (some ⟨vb, 0, none⟩)), (.agg #[(.int .i64 gw), (.int .i64 gi), (.int .i64 gb)]), (.int .i64 n_), (.string tx_)] B w [viewA (ptr vb) img l] (fun v H' => v = .int .i64 r.1 ∧ H' = [viewA (ptr vb) img r.2]) := by
 refine spec_W Tryz.func21 rfl fun l0 hs => ?_
 unfold eRemove_M at hm
 refine W.sr fun K1 hK1 => ?_
 refine zN [(.int .i64 gw), (.int .i64 gi), (.int .i64 gb)] 31 hs fun b4 w2 hs3 => ?_
 refine zE 1 (hK1 _ _ ?_)
 refine W.sr fun K6 hK6 => ?_
 refine zR 1 ?_
 refine ops_R (runs_loadAgg (ad := ⟨b4, 0, none⟩) (cs := [(.int .i64 gw), (.int .i64 gi), (.int .i64 gb)]) (by kernel_rfl) (cells_sub (hs3.heapAt 0 rfl) rfl)) ?_
 refine zR 1 ?_
 rcases Bool.eq_false_or_eq_true (decide ((igetM img l gw gi gb n_).2 = 0)) with h7 | h7
 ·
  obtain ⟨h7p, hm⟩ := iY hm h7
  rcases Bool.eq_false_or_eq_true (decide ((igetM img l gw gi gb n_).1.k = 2)) with h8 | h8
  ·
   obtain ⟨h8p, hm⟩ := iY hm h8
   refine ops_call0 hs3 (by kernel_rfl) (eopen_ok (gw := gw) (gi := gi) (gb := gb) (n_ := n_) (hv := (hs3.entAt 1 rfl viewA_at)) (hP := h7p) (hK := h8p) B _) ?_
   rintro _ _ w10 ⟨b9, rfl, rfl⟩ hs11
   have hs12 := St.ap1 hs11
   refine zR 3 ?_
   refine zN [(.pointer none), (.int .i64 0), (.int .i64 0), (.int .i64 0), (.pointer none)] 97 hs12 fun b15 w13 hs14 => ?_
   refine ops_store (off := 0) (cs := [(.pointer none), (.int .i64 0), (.int .i64 0), (.int .i64 0), (.pointer none)]) (vs := [(.pointer (some ⟨vb, 0, none⟩)), (.int .i64 gw), (.int .i64 gi), (.int .i64 gb), (.pointer (some ⟨b9, 0, none⟩))]) hs14 (by kernel_rfl) (by simp) rfl (fun w16 hs17 => ?_)
   have hs18 : St B w l0 w16 [blk b15 (.cells [(.pointer (some ⟨vb, 0, none⟩)), (.int .i64 gw), (.int .i64 gi), (.int .i64 gb), (.pointer (some ⟨b9, 0, none⟩))].toArray 97 (0, 0)), blk b9 (.cells [(.pointer (some ⟨vb, 0, none⟩)), (.int .i64 gw), (.int .i64 gi), (.int .i64 gb), (.int .i64 n_)].toArray 164 (0, 0)), blk b4 (.cells [(.int .i64 gw), (.int .i64 gi), (.int .i64 gb)].toArray 31 (0, 0)), viewA (ptr vb) img l] := hs17
   refine zE 1 (hK6 _ _ ?_)
   refine W.seq fun K19 hK19 => ?_
   refine W.sr fun K20 hK20 => ?_
   refine zE 2 (hK20 _ _ ?_)
   refine W.cond_false false (by kernel_rfl) rfl ?_
   refine W.skip ?_
   refine hK19 _ _ ?_
   refine W.sr fun K21 hK21 => ?_
   refine ops_R (runs_loadAgg (ad := ⟨b15, 0, none⟩) (cs := [(.pointer (some ⟨vb, 0, none⟩)), (.int .i64 gw), (.int .i64 gi), (.int .i64 gb), (.pointer (some ⟨b9, 0, none⟩))]) (by kernel_rfl) (cells_sub (hs18.heapAt 0 rfl) rfl)) ?_
   refine zR 1 ?_
   obtain ⟨r22, h23, hm⟩ := bind_some hm
   have hs24 := St.f3 hs18
   have hs25 := St.f2 hs24
   refine zC22 hs25 (tfind_walk (mb := b9) (vb := vb) (tx_ := tx_) (img := img) (l := l) (gw := gw) (gi := gi) (gb := gb) (n_ := n_) (hm := h23) B _) fun w26 hs28 => ?_
   refine zR 4 ?_
   refine zN [(.string ByteArray.empty), (.int .i64 0)] 33 hs28 fun b31 w29 hs30 => ?_
   refine ops_store (off := 0) (cs := [(.string ByteArray.empty), (.int .i64 0)]) (vs := [(.string r22.1), (.int .i64 r22.2.1)]) hs30 (by kernel_rfl) (by simp) rfl (fun w32 hs33 => ?_)
   have hs34 : St B w l0 w32 [blk b31 (.cells [(.string r22.1), (.int .i64 r22.2.1)].toArray 33 (0, 0)), blk b9 (.cells [(.pointer (some ⟨vb, 0, none⟩)), (.int .i64 gw), (.int .i64 gi), (.int .i64 gb), (.int .i64 n_)].toArray 164 (0, 0)), viewA (ptr vb) img l, blk b15 (.cells [(.pointer (some ⟨vb, 0, none⟩)), (.int .i64 gw), (.int .i64 gi), (.int .i64 gb), (.pointer (some ⟨b9, 0, none⟩))].toArray 97 (0, 0)), blk b4 (.cells [(.int .i64 gw), (.int .i64 gi), (.int .i64 gb)].toArray 31 (0, 0))] := hs33
   refine zE 2 (hK21 _ _ ?_)
   refine W.seq fun K35 hK35 => ?_
   refine W.sr fun K36 hK36 => ?_
   refine zE 2 (hK36 _ _ ?_)
   refine W.cond (!decide (r22.2.2.2 = 0)) (by kernel_rfl) (fun h37 => ?_) (fun h37 => ?_)
   rotate_left
   ·
    have h37p : r22.2.2.2 = 0 := of_decide_eq_true (bnot_false h37)
    replace hm := ite_yes hm h37p
    refine W.skip ?_
    refine hK35 _ _ ?_
    refine W.sr fun K38 hK38 => ?_
    refine zR 1 ?_
    refine zL ⟨b15, 4, none⟩ (.pointer (some ⟨b9, 0, none⟩)) (hs34.cellAt 3 rfl rfl) ?_
    refine zR 1 ?_
    obtain ⟨r39, h40, hm⟩ := bind_some hm
    have hs41 := St.f2 hs34
    have hs42 := St.f2 hs41
    refine zC22 hs42 (bDrop_walk (mb := b9) (vb := vb) (k_ := r22.2.2.1) (img := img) (l := l) (gw := gw) (gi := gi) (gb := gb) (n_ := n_) (hm := h40) B _) fun w43 hs45 => ?_
    refine zE 1 (hK38 _ _ ?_)
    refine W.ret ?_
    obtain rfl := some_inj hm
    have hs46 := St.f1 hs45
    have hs47 := St.tk1 hs46
    refine ret_of (.int .i64 r39.1) (by kernel_rfl) ⟨_, ⟨rfl, rfl⟩, hs47⟩
   ·
    have h37p : ¬ (r22.2.2.2 = 0) := of_decide_eq_false (bnot_true h37)
    replace hm := ite_no hm h37p
    refine W.sr fun K48 hK48 => ?_
    refine zE 2 (hK48 _ _ ?_)
    refine W.ret (ret_seq ?_)
    obtain rfl := some_inj hm
    have hs49 := St.f2 hs34
    have hs50 := St.tk1 hs49
    refine ret_of (.int .i64 r22.2.2.2) (by kernel_rfl) ⟨_, ⟨rfl, rfl⟩, hs50⟩
  ·
   obtain ⟨h8p, hm⟩ := iN hm h8
   refine zC00 hs3 (eopen_dir (gw := gw) (gi := gi) (gb := gb) (n_ := n_) (hv := (hs3.entAt 1 rfl viewA_at)) (hP := h7p) (hK := h8p) B _) fun w51 hs53 => ?_
   refine zR 3 ?_
   refine zN [(.pointer none), (.int .i64 0), (.int .i64 0), (.int .i64 0), (.pointer none)] 97 hs53 fun b56 w54 hs55 => ?_
   refine ops_store (off := 0) (cs := [(.pointer none), (.int .i64 0), (.int .i64 0), (.int .i64 0), (.pointer none)]) (vs := [(.pointer none), (.int .i64 0), (.int .i64 0), (.int .i64 0), (.pointer none)]) hs55 (by kernel_rfl) (by simp) rfl (fun w57 hs58 => ?_)
   have hs59 : St B w l0 w57 [blk b56 (.cells [(.pointer none), (.int .i64 0), (.int .i64 0), (.int .i64 0), (.pointer none)].toArray 97 (0, 0)), blk b4 (.cells [(.int .i64 gw), (.int .i64 gi), (.int .i64 gb)].toArray 31 (0, 0)), viewA (ptr vb) img l] := hs58
   refine zE 1 (hK6 _ _ ?_)
   refine W.seq fun K60 hK60 => ?_
   refine W.sr fun K61 hK61 => ?_
   refine zE 2 (hK61 _ _ ?_)
   refine W.cond_true true (by kernel_rfl) rfl ?_
   refine W.sr fun K62 hK62 => ?_
   refine zE 2 (hK62 _ _ ?_)
   refine W.ret (ret_seq ?_)
   obtain rfl := some_inj hm
   have hs63 := St.f2 hs59
   have hs64 := St.tk1 hs63
   refine ret_of (.int .i64 10) (by kernel_rfl) ⟨_, ⟨rfl, rfl⟩, hs64⟩
 ·
  obtain ⟨h7p, hm⟩ := iN hm h7
  refine zC00 hs3 (eopen_err (gw := gw) (gi := gi) (gb := gb) (n_ := n_) (hv := (hs3.entAt 1 rfl viewA_at)) (hN := h7p) B _) fun w65 hs67 => ?_
  refine zR 3 ?_
  refine zN [(.pointer none), (.int .i64 0), (.int .i64 0), (.int .i64 0), (.pointer none)] 97 hs67 fun b70 w68 hs69 => ?_
  refine ops_store (off := 0) (cs := [(.pointer none), (.int .i64 0), (.int .i64 0), (.int .i64 0), (.pointer none)]) (vs := [(.pointer none), (.int .i64 0), (.int .i64 0), (.int .i64 0), (.pointer none)]) hs69 (by kernel_rfl) (by simp) rfl (fun w71 hs72 => ?_)
  have hs73 : St B w l0 w71 [blk b70 (.cells [(.pointer none), (.int .i64 0), (.int .i64 0), (.int .i64 0), (.pointer none)].toArray 97 (0, 0)), blk b4 (.cells [(.int .i64 gw), (.int .i64 gi), (.int .i64 gb)].toArray 31 (0, 0)), viewA (ptr vb) img l] := hs72
  refine zR 1 ?_
  obtain ⟨r74, h75, hm⟩ := bind_some hm
  replace h75 := some_inj h75
  refine ops_set 10 (v := .int .i64 r74) (Eq.trans (by kernel_rfl) (congrArg (Value.int .i64) h75)) ?_
  refine zD (hK6 _ _ ?_)
  refine W.seq fun K76 hK76 => ?_
  refine W.sr fun K77 hK77 => ?_
  refine zE 2 (hK77 _ _ ?_)
  refine W.cond (!decide (r74 = 0)) (by kernel_rfl) (fun h78 => ?_) (fun h78 => ?_)
  rotate_left
  ·
   have h78p : r74 = 0 := of_decide_eq_true (bnot_false h78)
   exact absurd h78p (fun e_ => h7p (h75.trans e_))
  ·
   have h78p : ¬ (r74 = 0) := of_decide_eq_false (bnot_true h78)
   replace hm := ite_no hm h78p
   refine W.sr fun K79 hK79 => ?_
   refine zE 2 (hK79 _ _ ?_)
   refine W.ret (ret_seq ?_)
   obtain rfl := some_inj hm
   have hs80 := St.f2 hs73
   have hs81 := St.tk1 hs80
   refine ret_of (.int .i64 r74) (by kernel_rfl) ⟨_, ⟨rfl, rfl⟩, hs81⟩

end Go.Proofs.YtmmclabkkigiaaaGreatDoor

set_option maxRecDepth 20000
namespace Go.Proofs.YtmmclabkkigiaaaGreatDoor
open Go Go.RowKit
set_option linter.unusedSimpArgs false
set_option linter.unusedVariables false

theorem eFind_nil {gw gi gb n_ : Int} {tx_ : ByteArray} (B : Nat) (w : World) : Spec Tryz.prog 13 #[(.pointer none), (.agg #[(.int .i64 gw), (.int .i64 gi), (.int .i64 gb)]), (.int .i64 n_), (.string tx_)] B w [] (fun v H' => v = (.tuple #[(.agg #[(.string ByteArray.empty), (.int .i64 0)]), (.int .i64 0), (.int .i64 2)]) ∧ H' = []) := by
 refine spec_Q Tryz.func13 rfl fun hs => ?_
 refine W.sr fun K1 hK1 => ?_
 refine zN [(.int .i64 gw), (.int .i64 gi), (.int .i64 gb)] 31 hs fun b4 w2 hs3 => ?_
 refine zN [(.string ByteArray.empty), (.int .i64 0)] 33 hs3 fun b7 w5 hs6 => ?_
 refine zE 2 (hK1 _ _ ?_)
 refine W.sr fun K8 hK8 => ?_
 refine zR 1 ?_
 refine ops_R (runs_loadAgg (ad := ⟨b4, 0, none⟩) (cs := [(.int .i64 gw), (.int .i64 gi), (.int .i64 gb)]) (by kernel_rfl) (cells_sub (hs6.heapAt 1 rfl) rfl)) ?_
 refine zR 1 ?_
 refine zC00 hs6 (eopen_nil (gw := gw) (gi := gi) (gb := gb) (n_ := n_) B _) fun w9 hs11 => ?_
 refine zR 3 ?_
 refine zN [(.pointer none), (.int .i64 0), (.int .i64 0), (.int .i64 0), (.pointer none)] 97 hs11 fun b14 w12 hs13 => ?_
 refine ops_store (off := 0) (cs := [(.pointer none), (.int .i64 0), (.int .i64 0), (.int .i64 0), (.pointer none)]) (vs := [(.pointer none), (.int .i64 0), (.int .i64 0), (.int .i64 0), (.pointer none)]) hs13 (by kernel_rfl) (by simp) rfl (fun w15 hs16 => ?_)
 have hs17 : St B w [] w15 [blk b14 (.cells [(.pointer none), (.int .i64 0), (.int .i64 0), (.int .i64 0), (.pointer none)].toArray 97 (0, 0)), blk b7 (.cells [(.string ByteArray.empty), (.int .i64 0)].toArray 33 (0, 0)), blk b4 (.cells [(.int .i64 gw), (.int .i64 gi), (.int .i64 gb)].toArray 31 (0, 0))] := hs16
 refine zE 1 (hK8 _ _ ?_)
 refine W.seq fun K18 hK18 => ?_
 refine W.sr fun K19 hK19 => ?_
 refine zE 2 (hK19 _ _ ?_)
 refine W.cond_true true (by kernel_rfl) rfl ?_
 refine W.sr fun K20 hK20 => ?_
 refine zR 2 ?_
 have hs23 := St.f1 hs17
 refine ops_store (off := 0) (cs := [(.string ByteArray.empty), (.int .i64 0)]) (vs := [(.string ByteArray.empty), (.int .i64 0)]) hs23 (by kernel_rfl) (by simp) rfl (fun w21 hs22 => ?_)
 have hs24 : St B w [] w21 [blk b7 (.cells [(.string ByteArray.empty), (.int .i64 0)].toArray 33 (0, 0)), blk b14 (.cells [(.pointer none), (.int .i64 0), (.int .i64 0), (.int .i64 0), (.pointer none)].toArray 97 (0, 0)), blk b4 (.cells [(.int .i64 gw), (.int .i64 gi), (.int .i64 gb)].toArray 31 (0, 0))] := hs22
 refine zE 2 (hK20 _ _ ?_)
 refine W.ret (ret_seq ?_)
 have hs25 := St.tk0 hs24
 refine ret_of (.tuple #[(.agg #[(.string ByteArray.empty), (.int .i64 0)]), (.int .i64 0), (.int .i64 2)]) (resS_of (by kernel_rfl) (resD_three rfl (.agg (ad := ⟨b7, 0, none⟩) (cs := [(.string ByteArray.empty), (.int .i64 0)]) (by kernel_rfl) (by kernel_rfl) (cells_sub (hs24.heapAt 0 rfl) rfl)) (.tmp (by kernel_rfl)) (.tmp (by kernel_rfl)))) ⟨_, ⟨rfl, rfl⟩, hs25⟩

theorem eAdd_nil {gw gi gb n_ xi_ : Int} {xn_ : ByteArray} (B : Nat) (w : World) : Spec Tryz.prog 19 #[(.pointer none), (.agg #[(.int .i64 gw), (.int .i64 gi), (.int .i64 gb)]), (.int .i64 n_), (.agg #[(.string xn_), (.int .i64 xi_)])] B w [] (fun v H' => v = (.int .i64 2) ∧ H' = []) := by
 refine spec_Q Tryz.func19 rfl fun hs => ?_
 refine W.sr fun K1 hK1 => ?_
 refine zN [(.int .i64 gw), (.int .i64 gi), (.int .i64 gb)] 31 hs fun b4 w2 hs3 => ?_
 refine zN [(.string xn_), (.int .i64 xi_)] 33 hs3 fun b7 w5 hs6 => ?_
 refine zE 1 (hK1 _ _ ?_)
 refine W.seq fun K8 hK8 => ?_
 refine W.sr fun K9 hK9 => ?_
 refine zR 1 ?_
 refine ops_R (runs_loadAgg (ad := ⟨b4, 0, none⟩) (cs := [(.int .i64 gw), (.int .i64 gi), (.int .i64 gb)]) (by kernel_rfl) (cells_sub (hs6.heapAt 1 rfl) rfl)) ?_
 refine ops_R (runs_loadAgg (ad := ⟨b7, 0, none⟩) (cs := [(.string xn_), (.int .i64 xi_)]) (by kernel_rfl) (cells_sub (hs6.heapAt 0 rfl) rfl)) ?_
 refine zC00 hs6 (emay2_nil (gw := gw) (gi := gi) (gb := gb) (xn_ := xn_) (xi_ := xi_) B _) fun w10 hs12 => ?_
 refine zE 1 (hK9 _ _ ?_)
 refine W.sr fun K13 hK13 => ?_
 refine zE 2 (hK13 _ _ ?_)
 refine W.cond_true true (by kernel_rfl) rfl ?_
 refine W.sr fun K14 hK14 => ?_
 refine zE 2 (hK14 _ _ ?_)
 refine W.ret (ret_seq ?_)
 have hs15 := St.tk0 hs12
 refine ret_of (.int .i64 2) (by kernel_rfl) ⟨_, ⟨rfl, rfl⟩, hs15⟩

theorem eChange_nil {gw gi gb n_ xi_ : Int} {xn_ : ByteArray} (B : Nat) (w : World) : Spec Tryz.prog 20 #[(.pointer none), (.agg #[(.int .i64 gw), (.int .i64 gi), (.int .i64 gb)]), (.int .i64 n_), (.agg #[(.string xn_), (.int .i64 xi_)])] B w [] (fun v H' => v = (.int .i64 2) ∧ H' = []) := by
 refine spec_Q Tryz.func20 rfl fun hs => ?_
 refine W.sr fun K1 hK1 => ?_
 refine zN [(.int .i64 gw), (.int .i64 gi), (.int .i64 gb)] 31 hs fun b4 w2 hs3 => ?_
 refine zN [(.string xn_), (.int .i64 xi_)] 33 hs3 fun b7 w5 hs6 => ?_
 refine zE 1 (hK1 _ _ ?_)
 refine W.seq fun K8 hK8 => ?_
 refine W.sr fun K9 hK9 => ?_
 refine zR 1 ?_
 refine ops_R (runs_loadAgg (ad := ⟨b4, 0, none⟩) (cs := [(.int .i64 gw), (.int .i64 gi), (.int .i64 gb)]) (by kernel_rfl) (cells_sub (hs6.heapAt 1 rfl) rfl)) ?_
 refine ops_R (runs_loadAgg (ad := ⟨b7, 0, none⟩) (cs := [(.string xn_), (.int .i64 xi_)]) (by kernel_rfl) (cells_sub (hs6.heapAt 0 rfl) rfl)) ?_
 refine zC00 hs6 (emay2_nil (gw := gw) (gi := gi) (gb := gb) (xn_ := xn_) (xi_ := xi_) B _) fun w10 hs12 => ?_
 refine zE 1 (hK9 _ _ ?_)
 refine W.sr fun K13 hK13 => ?_
 refine zE 2 (hK13 _ _ ?_)
 refine W.cond_true true (by kernel_rfl) rfl ?_
 refine W.sr fun K14 hK14 => ?_
 refine zE 2 (hK14 _ _ ?_)
 refine W.ret (ret_seq ?_)
 have hs15 := St.tk0 hs12
 refine ret_of (.int .i64 2) (by kernel_rfl) ⟨_, ⟨rfl, rfl⟩, hs15⟩

theorem eRemove_nil {gw gi gb n_ : Int} {tx_ : ByteArray} (B : Nat) (w : World) : Spec Tryz.prog 21 #[(.pointer none), (.agg #[(.int .i64 gw), (.int .i64 gi), (.int .i64 gb)]), (.int .i64 n_), (.string tx_)] B w [] (fun v H' => v = (.int .i64 2) ∧ H' = []) := by
 refine spec_Q Tryz.func21 rfl fun hs => ?_
 refine W.sr fun K1 hK1 => ?_
 refine zN [(.int .i64 gw), (.int .i64 gi), (.int .i64 gb)] 31 hs fun b4 w2 hs3 => ?_
 refine zE 1 (hK1 _ _ ?_)
 refine W.sr fun K5 hK5 => ?_
 refine zR 1 ?_
 refine ops_R (runs_loadAgg (ad := ⟨b4, 0, none⟩) (cs := [(.int .i64 gw), (.int .i64 gi), (.int .i64 gb)]) (by kernel_rfl) (cells_sub (hs3.heapAt 0 rfl) rfl)) ?_
 refine zR 1 ?_
 refine zC00 hs3 (eopen_nil (gw := gw) (gi := gi) (gb := gb) (n_ := n_) B _) fun w6 hs8 => ?_
 refine zR 3 ?_
 refine zN [(.pointer none), (.int .i64 0), (.int .i64 0), (.int .i64 0), (.pointer none)] 97 hs8 fun b11 w9 hs10 => ?_
 refine ops_store (off := 0) (cs := [(.pointer none), (.int .i64 0), (.int .i64 0), (.int .i64 0), (.pointer none)]) (vs := [(.pointer none), (.int .i64 0), (.int .i64 0), (.int .i64 0), (.pointer none)]) hs10 (by kernel_rfl) (by simp) rfl (fun w12 hs13 => ?_)
 have hs14 : St B w [] w12 [blk b11 (.cells [(.pointer none), (.int .i64 0), (.int .i64 0), (.int .i64 0), (.pointer none)].toArray 97 (0, 0)), blk b4 (.cells [(.int .i64 gw), (.int .i64 gi), (.int .i64 gb)].toArray 31 (0, 0))] := hs13
 refine zE 1 (hK5 _ _ ?_)
 refine W.seq fun K15 hK15 => ?_
 refine W.sr fun K16 hK16 => ?_
 refine zE 2 (hK16 _ _ ?_)
 refine W.cond_true true (by kernel_rfl) rfl ?_
 refine W.sr fun K17 hK17 => ?_
 refine zE 2 (hK17 _ _ ?_)
 refine W.ret (ret_seq ?_)
 have hs18 := St.tk0 hs14
 refine ret_of (.int .i64 2) (by kernel_rfl) ⟨_, ⟨rfl, rfl⟩, hs18⟩

end Go.Proofs.YtmmclabkkigiaaaGreatDoor

namespace Go.Proofs.YtmmclabkkigiaaaGreatDoor
open Go Go.RowKit
set_option linter.unusedSimpArgs false
set_option linter.unusedVariables false

structure TEn where
  c0 : ByteArray
  c1 : Int

def kEn : Kind TEn := ⟨33, 2, fun x => [.string x.c0, .int .i64 x.c1], by decide, fun _ => rfl, fun _ => rfl⟩
def good_En (x : TEn) : Prop := (-9223372036854775808 ≤ x.c1 ∧ x.c1 ≤ 9223372036854775807)

end Go.Proofs.YtmmclabkkigiaaaGreatDoor

set_option linter.unusedVariables false
set_option maxRecDepth 20000
set_option maxHeartbeats 8000000
namespace Go.Proofs.YtmmclabkkigiaaaGreatDoor
open Go Go.RowKit
set_option linter.unusedSimpArgs false
set_option linter.unusedVariables false

def eList_D46 (q44 : List TEn) : Option (List TEn × Int) :=
 some (q44, 0)

def eList_X46 (p47 : Int) : Option (List TEn × Int) :=
 some ([], p47)

def eList_R46 (img : List Int) (l : List (Int × Int)) (gw : Int) (gi : Int) (gb : Int) (n_ : Int) (k40 : Nat) (c41 : (List TEn) → Option (List TEn × Int)) (q44 : List TEn) : Option (List TEn × Int) :=
 (some (((0 : Int) + (k40 : Int)) % 12)).bind fun r113 =>
(tentry_M img l gw gi gb n_ r113).bind fun r118 =>
if r118.2.2 = 0 then (if r118.1 = ByteArray.empty ∧ r118.2.1 = 0 then (c41 q44) else (need (q44.length + ([(⟨r118.1, r118.2.1⟩ : TEn)]).length ≤ 1000000000) <|
c41 (q44 ++ [(⟨r118.1, r118.2.1⟩ : TEn)]))) else (eList_X46 r118.2.2)

def eList_M (img : List Int) (l : List (Int × Int)) (gw : Int) (gi : Int) (gb : Int) (n_ : Int) : Option (List TEn × Int) :=
 if (igetM img l gw gi gb n_).2 = 0 then (if (igetM img l gw gi gb n_).1.k = 2 then (need ((0 : Int) ≤ 0 ∧ (0 : Int) ≤ 12) <|
rounds (fun k_ c_ s_ => eList_R46 img l gw gi gb n_ k_ c_ s_) (fun s_ => eList_D46 s_) 12 0 ([])) else (some ([], 10))) else (if (igetM img l gw gi gb n_).2 = 0 then (none) else (some ([], (igetM img l gw gi gb n_).2)))

theorem eList_walk {img : List Int} {l : List (Int × Int)} {gw : Int} {gi : Int} {gb : Int} {n_ : Int} {vb : Nat} {r : List TEn × Int} (B : Nat) (w : World) (hm : eList_M img l gw gi gb n_ = some r) : Spec Tryz.prog 14 #[(.pointer (some ⟨vb, 0, none⟩)), (.agg #[(.int .i64 gw), (.int .i64 gi), (.int .i64 gb)]), (.int .i64 n_)] B w [viewA (ptr vb) img l] (fun v H' => ∃ a' c', v = .tuple #[.slice a' r.1.length c', .int .i64 r.2] ∧ H' = [kEn.row a' c' r.1, viewA (ptr vb) img l]) := by
 refine spec_W Tryz.func14 rfl fun l0 hs => ?_
 unfold eList_M at hm
 refine W.sr fun K1 hK1 => ?_
 refine zN [(.int .i64 gw), (.int .i64 gi), (.int .i64 gb)] 31 hs fun b4 w2 hs3 => ?_
 refine zN [(.slice none 0 0)] 37 hs3 fun b7 w5 hs6 => ?_
 refine zN [(.int .i64 0)] 34 hs6 fun b10 w8 hs9 => ?_
 refine zD (hK1 _ _ ?_)
 refine W.sr fun K13 hK13 => ?_
 refine zR 1 ?_
 refine ops_R (runs_loadAgg (ad := ⟨b4, 0, none⟩) (cs := [(.int .i64 gw), (.int .i64 gi), (.int .i64 gb)]) (by kernel_rfl) (cells_sub (hs9.heapAt 2 rfl) rfl)) ?_
 refine zR 1 ?_
 rcases Bool.eq_false_or_eq_true (decide ((igetM img l gw gi gb n_).2 = 0)) with h14 | h14
 ·
  obtain ⟨h14p, hm⟩ := iY hm h14
  rcases Bool.eq_false_or_eq_true (decide ((igetM img l gw gi gb n_).1.k = 2)) with h15 | h15
  ·
   obtain ⟨h15p, hm⟩ := iY hm h15
   refine ops_call0 hs9 (by kernel_rfl) (eopen_ok (gw := gw) (gi := gi) (gb := gb) (n_ := n_) (hv := (hs9.entAt 3 rfl viewA_at)) (hP := h14p) (hK := h15p) B _) ?_
   rintro _ _ w17 ⟨b16, rfl, rfl⟩ hs18
   have hs19 := St.ap1 hs18
   refine zR 3 ?_
   refine zN [(.pointer none), (.int .i64 0), (.int .i64 0), (.int .i64 0), (.pointer none)] 97 hs19 fun b22 w20 hs21 => ?_
   refine ops_store (off := 0) (cs := [(.pointer none), (.int .i64 0), (.int .i64 0), (.int .i64 0), (.pointer none)]) (vs := [(.pointer (some ⟨vb, 0, none⟩)), (.int .i64 gw), (.int .i64 gi), (.int .i64 gb), (.pointer (some ⟨b16, 0, none⟩))]) hs21 (by kernel_rfl) (by simp) rfl (fun w23 hs24 => ?_)
   have hs25 : St B w l0 w23 [blk b22 (.cells [(.pointer (some ⟨vb, 0, none⟩)), (.int .i64 gw), (.int .i64 gi), (.int .i64 gb), (.pointer (some ⟨b16, 0, none⟩))].toArray 97 (0, 0)), blk b16 (.cells [(.pointer (some ⟨vb, 0, none⟩)), (.int .i64 gw), (.int .i64 gi), (.int .i64 gb), (.int .i64 n_)].toArray 164 (0, 0)), blk b10 (.cells [(.int .i64 0)].toArray 34 (0, 0)), blk b7 (.cells [(.slice none 0 0)].toArray 37 (0, 0)), blk b4 (.cells [(.int .i64 gw), (.int .i64 gi), (.int .i64 gb)].toArray 31 (0, 0)), viewA (ptr vb) img l] := hs24
   have hs28 := St.f2 hs25
   refine ops_store (off := 0) (cs := [(.int .i64 0)]) (vs := [(.int .i64 0)]) hs28 (by kernel_rfl) (by simp) rfl (fun w26 hs27 => ?_)
   have hs29 : St B w l0 w26 [blk b10 (.cells [(.int .i64 0)].toArray 34 (0, 0)), blk b22 (.cells [(.pointer (some ⟨vb, 0, none⟩)), (.int .i64 gw), (.int .i64 gi), (.int .i64 gb), (.pointer (some ⟨b16, 0, none⟩))].toArray 97 (0, 0)), blk b16 (.cells [(.pointer (some ⟨vb, 0, none⟩)), (.int .i64 gw), (.int .i64 gi), (.int .i64 gb), (.int .i64 n_)].toArray 164 (0, 0)), blk b7 (.cells [(.slice none 0 0)].toArray 37 (0, 0)), blk b4 (.cells [(.int .i64 gw), (.int .i64 gi), (.int .i64 gb)].toArray 31 (0, 0)), viewA (ptr vb) img l] := hs27
   refine zD (hK13 _ _ ?_)
   refine W.seq fun K30 hK30 => ?_
   refine W.sr fun K31 hK31 => ?_
   refine zL ⟨b10, 0, none⟩ (.int .i64 0) (hs29.cellAt 0 rfl rfl) ?_
   refine zE 1 (hK31 _ _ ?_)
   refine W.cond_false false (by kernel_rfl) rfl ?_
   refine W.skip ?_
   refine hK30 _ _ ?_
   refine W.seq fun K32 hK32 => ?_
   refine W.sr fun K33 hK33 => ?_
   refine ops_call0 hs29 (by kernel_rfl) (around_spec (f_ := 0) B _) ?_
   rintro _ _ w35 ⟨b34, rfl, rfl⟩ hs36
   have hs37 := St.ap1 hs36
   refine zD (hK33 _ _ ?_)
   refine W.block ?_
   obtain ⟨h38, hm⟩ := need_some hm
   refine W.norm (n := 41) (l := [(6, (.pointer (some ⟨b7, 0, none⟩))), (7, (.pointer (some ⟨b10, 0, none⟩))), (8, (.pointer (some ⟨b22, 0, none⟩))), (22, (.func (.func 83) #[] #[(.pointer (some ⟨b34, 0, none⟩))]))]) (by kernel_rfl) (fun us39 => ?_)
   have hs45 := St.knil kEn hs37
   have hs52 := St.f6 hs45
   have hs53 := St.f6 hs52
   have hs54 := St.f2 hs53
   have hs55 := St.f5 hs54
   have hs56 := St.f6 hs55
   have hs57 := St.f7 hs56
   have hs58 := St.f7 hs57
   have hs59 := St.f7 hs58
   have hF60 : rounds (fun k_ c_ s_ => eList_R46 img l gw gi gb n_ k_ c_ s_) (fun s_ => eList_D46 s_) (12 - 0) 0 ([]) = some r := by rw [Nat.sub_zero]; exact hm
   clear hm
   refine W.roundsA (G := (List TEn) × (Option Addr) × Nat) (GZ := Int) (gf := 83) (lb := #[(.pointer (some ⟨b34, 0, none⟩))]) 12 (fun k_ (q44, m42, m43) => rounds (fun k_ c_ s_ => eList_R46 img l gw gi gb n_ k_ c_ s_) (fun s_ => eList_D46 s_) (12 - k_) k_ q44 = some r) (fun (q44, m42, m43) => [blk b10 (.cells [(.int .i64 0)].toArray 34 (0, 0)), viewA (ptr vb) img l, blk b16 (.cells [(.pointer (some ⟨vb, 0, none⟩)), (.int .i64 gw), (.int .i64 gi), (.int .i64 gb), (.int .i64 n_)].toArray 164 (0, 0)), blk b22 (.cells [(.pointer (some ⟨vb, 0, none⟩)), (.int .i64 gw), (.int .i64 gi), (.int .i64 gb), (.pointer (some ⟨b16, 0, none⟩))].toArray 97 (0, 0)), kEn.row m42 m43 q44, blk b7 (.cells [(.slice m42 q44.length m43)].toArray 37 (0, 0)), blk b4 (.cells [(.int .i64 gw), (.int .i64 gi), (.int .i64 gb)].toArray 31 (0, 0))]) .ret (fun p47 => eList_X46 p47 = some r) (fun p47 => [blk b10 (.cells [(.int .i64 p47)].toArray 34 (0, 0)), viewA (ptr vb) img l, blk b16 (.cells [(.pointer (some ⟨vb, 0, none⟩)), (.int .i64 gw), (.int .i64 gi), (.int .i64 gb), (.int .i64 n_)].toArray 164 (0, 0)), blk b22 (.cells [(.pointer (some ⟨vb, 0, none⟩)), (.int .i64 gw), (.int .i64 gi), (.int .i64 gb), (.pointer (some ⟨b16, 0, none⟩))].toArray 97 (0, 0)), blk b7 (.cells [(.slice none 0 0)].toArray 37 (0, 0)), blk b4 (.cells [(.int .i64 gw), (.int .i64 gi), (.int .i64 gb)].toArray 31 (0, 0))]) [blk b34 (.cells [(.int .i64 0)].toArray 3 (0, 0))] (fun k_ => #[(.int .i64 (((0 : Int) + (k_ : Int)) % 12))]) (fun k_ l_ => slotsD 41 ((23, (.int .i64 (((0 : Int) + (k_ : Int)) % 12))) :: [(6, (.pointer (some ⟨b7, 0, none⟩))), (7, (.pointer (some ⟨b10, 0, none⟩))), (8, (.pointer (some ⟨b22, 0, none⟩))), (22, (.func (.func 83) #[] #[(.pointer (some ⟨b34, 0, none⟩))]))]) us39 (some l_) []) ([], none, 0) hF60 hs59 rfl (by kernel_rfl) (fun _ _ => by kernel_rfl) (fun _ => rfl) (fun a_ k_ l_ h1_ h2_ => ⟨rel_round1 (n := 41) (by decide) h1_ h2_, rfl⟩) (fun l_ => #[.func (.yield l_) #[] #[], (.pointer (some ⟨b34, 0, none⟩))]) (fun _ => rfl) (fun l_ w_ Y_ Z_ hy_ => around1_spec (f_ := 0) (yl := l_) (Y := Y_) (Z := Z_) (hf := h38) (hy := fun k_ h_ w_ => hy_ k_ h_ w_) _ w_) ?_ ?_ ?_
   rotate_left
   ·
    rintro D51 w61 ⟨q44, m42, m43⟩ hF63 hs62
    replace hF63 : rounds (fun k_ c_ s_ => eList_R46 img l gw gi gb n_ k_ c_ s_) (fun s_ => eList_D46 s_) (12 - 12) 12 q44 = some r := hF63
    rw [rounds_end] at hF63
    have hm : eList_D46 q44 = some r := hF63
    clear hF63
    unfold eList_D46 at hm
    have hs64 : St B w l0 w61 [blk D51 (.deferred (some [])), blk b34 (.cells [(.int .i64 0)].toArray 3 (0, 0)), blk b10 (.cells [(.int .i64 0)].toArray 34 (0, 0)), viewA (ptr vb) img l, blk b16 (.cells [(.pointer (some ⟨vb, 0, none⟩)), (.int .i64 gw), (.int .i64 gi), (.int .i64 gb), (.int .i64 n_)].toArray 164 (0, 0)), blk b22 (.cells [(.pointer (some ⟨vb, 0, none⟩)), (.int .i64 gw), (.int .i64 gi), (.int .i64 gb), (.pointer (some ⟨b16, 0, none⟩))].toArray 97 (0, 0)), kEn.row m42 m43 q44, blk b7 (.cells [(.slice m42 q44.length m43)].toArray 37 (0, 0)), blk b4 (.cells [(.int .i64 gw), (.int .i64 gi), (.int .i64 gb)].toArray 31 (0, 0))] := hs62
    refine normal_block ?_
    refine hK32 _ _ ?_
    refine W.sr fun K65 hK65 => ?_
    refine zL ⟨b7, 0, none⟩ (.slice m42 q44.length m43) (hs64.cellAt 7 rfl rfl) ?_
    have hs68 := St.f7 hs64
    refine ops_store (off := 0) (cs := [(.slice m42 q44.length m43)]) (vs := [(.slice m42 q44.length m43)]) hs68 (by kernel_rfl) (by simp) rfl (fun w66 hs67 => ?_)
    have hs69 : St B w l0 w66 [blk b7 (.cells [(.slice m42 q44.length m43)].toArray 37 (0, 0)), blk D51 (.deferred (some [])), blk b34 (.cells [(.int .i64 0)].toArray 3 (0, 0)), blk b10 (.cells [(.int .i64 0)].toArray 34 (0, 0)), viewA (ptr vb) img l, blk b16 (.cells [(.pointer (some ⟨vb, 0, none⟩)), (.int .i64 gw), (.int .i64 gi), (.int .i64 gb), (.int .i64 n_)].toArray 164 (0, 0)), blk b22 (.cells [(.pointer (some ⟨vb, 0, none⟩)), (.int .i64 gw), (.int .i64 gi), (.int .i64 gb), (.pointer (some ⟨b16, 0, none⟩))].toArray 97 (0, 0)), kEn.row m42 m43 q44, blk b4 (.cells [(.int .i64 gw), (.int .i64 gi), (.int .i64 gb)].toArray 31 (0, 0))] := hs67
    have hs72 := St.f3 hs69
    refine ops_store (off := 0) (cs := [(.int .i64 0)]) (vs := [(.int .i64 0)]) hs72 (by kernel_rfl) (by simp) rfl (fun w70 hs71 => ?_)
    have hs73 : St B w l0 w70 [blk b10 (.cells [(.int .i64 0)].toArray 34 (0, 0)), blk b7 (.cells [(.slice m42 q44.length m43)].toArray 37 (0, 0)), blk D51 (.deferred (some [])), blk b34 (.cells [(.int .i64 0)].toArray 3 (0, 0)), viewA (ptr vb) img l, blk b16 (.cells [(.pointer (some ⟨vb, 0, none⟩)), (.int .i64 gw), (.int .i64 gi), (.int .i64 gb), (.int .i64 n_)].toArray 164 (0, 0)), blk b22 (.cells [(.pointer (some ⟨vb, 0, none⟩)), (.int .i64 gw), (.int .i64 gi), (.int .i64 gb), (.pointer (some ⟨b16, 0, none⟩))].toArray 97 (0, 0)), kEn.row m42 m43 q44, blk b4 (.cells [(.int .i64 gw), (.int .i64 gi), (.int .i64 gb)].toArray 31 (0, 0))] := hs71
    refine zD (hK65 _ _ ?_)
    refine W.ret ?_
    obtain rfl := some_inj hm
    have hs74 := St.f8 hs73
    have hs75 := St.f8 hs74
    have hs76 := St.f8 hs75
    have hs77 := St.f8 hs76
    have hs78 := St.f8 hs77
    have hs79 := St.f8 hs78
    have hs80 := St.f7 hs79
    have hs81 := St.f7 hs80
    have hs82 := St.f8 hs81
    refine leave_mark (D := D51) (v := (.tuple #[(.slice m42 q44.length m43), (.int .i64 0)])) hs82 (by kernel_rfl) (fun w83 hs84 => (resD_two rfl (.cell (ad := ⟨b7, 0, none⟩) (by kernel_rfl) (by kernel_rfl) (hs84.cellAt 1 rfl rfl)) (.cell (ad := ⟨b10, 0, none⟩) (by kernel_rfl) (by kernel_rfl) (hs84.cellAt 0 rfl rfl)))) (fun w83 hs84 => ?_)
    have hs85 := St.f3 hs84
    have hs86 := St.f6 hs85
    have hs87 := St.tk2 hs86
    exact ⟨_, ⟨m42, m43, rfl, rfl⟩, hs87⟩
   ·
    rintro D90 w88 p47 hm hs89
    replace hm : eList_X46 p47 = some r := hm
    unfold eList_X46 at hm
    have hs91 : St B w l0 w88 [blk D90 (.deferred (some [])), blk b34 (.cells [(.int .i64 0)].toArray 3 (0, 0)), blk b10 (.cells [(.int .i64 p47)].toArray 34 (0, 0)), viewA (ptr vb) img l, blk b16 (.cells [(.pointer (some ⟨vb, 0, none⟩)), (.int .i64 gw), (.int .i64 gi), (.int .i64 gb), (.int .i64 n_)].toArray 164 (0, 0)), blk b22 (.cells [(.pointer (some ⟨vb, 0, none⟩)), (.int .i64 gw), (.int .i64 gi), (.int .i64 gb), (.pointer (some ⟨b16, 0, none⟩))].toArray 97 (0, 0)), blk b7 (.cells [(.slice none 0 0)].toArray 37 (0, 0)), blk b4 (.cells [(.int .i64 gw), (.int .i64 gi), (.int .i64 gb)].toArray 31 (0, 0))] := hs89
    refine W.ret (ret_block (ret_seq ?_))
    have hs92 := St.knil kEn hs91
    obtain rfl := some_inj hm
    have hs93 := St.f8 hs92
    have hs94 := St.f8 hs93
    have hs95 := St.f8 hs94
    have hs96 := St.f8 hs95
    have hs97 := St.f8 hs96
    have hs98 := St.f8 hs97
    have hs99 := St.f8 hs98
    have hs100 := St.f7 hs99
    have hs101 := St.f8 hs100
    refine leave_mark (D := D90) (v := (.tuple #[(.slice none 0 0), (.int .i64 p47)])) hs101 (by kernel_rfl) (fun w102 hs103 => (resD_two rfl (.cell (ad := ⟨b7, 0, none⟩) (by kernel_rfl) (by kernel_rfl) (hs103.cellAt 6 rfl rfl)) (.cell (ad := ⟨b10, 0, none⟩) (by kernel_rfl) (by kernel_rfl) (hs103.cellAt 2 rfl rfl)))) (fun w102 hs103 => ?_)
    have hs104 := St.f3 hs103
    have hs105 := St.f1 hs104
    have hs106 := St.tk2 hs105
    exact ⟨_, ⟨none, 0, rfl, rfl⟩, hs106⟩
   ·
    rintro k40 hk107 rc49 l48 w108 ⟨q44, m42, m43⟩ hF112 lf109 hs110 K111 hK111
    replace hF112 : rounds (fun k_ c_ s_ => eList_R46 img l gw gi gb n_ k_ c_ s_) (fun s_ => eList_D46 s_) (12 - k40) k40 q44 = some r := hF112
    rw [rounds_at hk107] at hF112
    obtain ⟨c41, hc41⟩ : ∃ c_, c_ = rounds (fun k_ c_ s_ => eList_R46 img l gw gi gb n_ k_ c_ s_) (fun s_ => eList_D46 s_) (12 - (k40 + 1)) (k40 + 1) := ⟨_, rfl⟩
    rw [← hc41] at hF112
    have hm : eList_R46 img l gw gi gb n_ k40 c41 q44 = some r := hF112
    clear hF112
    unfold eList_R46 at hm
    refine W.region ?_
    refine zR 1 ?_
    obtain ⟨r113, h114, hm⟩ := bind_some hm
    replace h114 := some_inj h114
    refine ops_set 9 (v := .int .i64 r113) (Eq.trans (by kernel_rfl) (congrArg (Value.int .i64) h114)) ?_
    refine zD ?_
    refine hK111 _ _ hs110 (fun w115 hs116 => ?_)
    refine W.block ?_
    refine W.sr fun K117 hK117 => ?_
    refine ops_R (runs_loadAgg (ad := ⟨b22, 0, none⟩) (cs := [(.pointer (some ⟨vb, 0, none⟩)), (.int .i64 gw), (.int .i64 gi), (.int .i64 gb), (.pointer (some ⟨b16, 0, none⟩))]) (by kernel_rfl) (cells_sub (hs116.heapAt 4 rfl) rfl)) ?_
    refine zR 1 ?_
    obtain ⟨r118, h119, hm⟩ := bind_some hm
    have hs120 := St.f2 hs116
    have hs121 := St.f3 hs120
    refine zC22 hs121 (tentry_walk (mb := b16) (vb := vb) (k_ := r113) (img := img) (l := l) (gw := gw) (gi := gi) (gb := gb) (n_ := n_) (hm := h119) B _) fun w122 hs124 => ?_
    refine zR 3 ?_
    refine zN [(.string ByteArray.empty), (.int .i64 0)] 33 hs124 fun b127 w125 hs126 => ?_
    refine ops_store (off := 0) (cs := [(.string ByteArray.empty), (.int .i64 0)]) (vs := [(.string r118.1), (.int .i64 r118.2.1)]) hs126 (by kernel_rfl) (by simp) rfl (fun w128 hs129 => ?_)
    have hs130 : St B w108 lf109 w128 [blk b127 (.cells [(.string r118.1), (.int .i64 r118.2.1)].toArray 33 (0, 0)), blk b16 (.cells [(.pointer (some ⟨vb, 0, none⟩)), (.int .i64 gw), (.int .i64 gi), (.int .i64 gb), (.int .i64 n_)].toArray 164 (0, 0)), viewA (ptr vb) img l, blk l48 (.loop { rc49 with state := .busy }), blk b10 (.cells [(.int .i64 0)].toArray 34 (0, 0)), blk b22 (.cells [(.pointer (some ⟨vb, 0, none⟩)), (.int .i64 gw), (.int .i64 gi), (.int .i64 gb), (.pointer (some ⟨b16, 0, none⟩))].toArray 97 (0, 0)), kEn.row m42 m43 q44, blk b7 (.cells [(.slice m42 q44.length m43)].toArray 37 (0, 0)), blk b4 (.cells [(.int .i64 gw), (.int .i64 gi), (.int .i64 gb)].toArray 31 (0, 0))] := hs129
    refine zE 1 (hK117 _ _ ?_)
    refine W.seq fun K131 hK131 => ?_
    refine W.sr fun K132 hK132 => ?_
    refine zE 2 (hK132 _ _ ?_)
    refine W.cond (!decide (r118.2.2 = 0)) (by kernel_rfl) (fun h133 => ?_) (fun h133 => ?_)
    rotate_left
    ·
     have h133p : r118.2.2 = 0 := of_decide_eq_true (bnot_false h133)
     replace hm := ite_yes hm h133p
     refine W.skip ?_
     refine hK131 _ _ ?_
     refine W.sr fun K134 hK134 => ?_
     refine ops_R (runs_loadAgg (ad := ⟨b127, 0, none⟩) (cs := [(.string r118.1), (.int .i64 r118.2.1)]) (by kernel_rfl) (cells_sub (hs130.heapAt 0 rfl) rfl)) ?_
     refine zR 1 ?_
     refine ops_R (v := (.bool (!((r118.1 == ByteArray.empty) && ((decide (r118.2.1 = 0)) && true))))) (runs_eq (b := !((r118.1 == ByteArray.empty) && ((decide (r118.2.1 = 0)) && true))) (by kernel_rfl)) ?_
     refine zD (hK134 _ _ ?_)
     refine W.cond (!((r118.1 == ByteArray.empty) && ((decide (r118.2.1 = 0)) && true))) (by kernel_rfl) (fun h135 => ?_) (fun h135 => ?_)
     rotate_left
     ·
      have h135p : r118.1 = ByteArray.empty ∧ r118.2.1 = 0 := by simpa using (bnot_false h135)
      replace hm := ite_yes hm h135p
      refine W.skip ?_
      refine normal_block ?_
      have hs136 := St.f8 hs130
      have hs137 := St.f8 hs136
      have hs138 := St.f8 hs137
      have hs139 := St.f8 hs138
      have hs140 := St.f5 hs139
      have hs141 := St.f6 hs140
      have hs142 := St.f8 hs141
      have hs143 := St.f8 hs142
      have hs144 := St.tk8 hs143
      rw [hc41] at hm
      exact ⟨(q44, m42, m43), hm, hs144⟩
     ·
      have h135p : ¬ (r118.1 = ByteArray.empty ∧ r118.2.1 = 0) := by simpa using (bnot_true h135)
      replace hm := ite_no hm h135p
      refine W.region ?_
      refine zL ⟨b7, 0, none⟩ (.slice m42 q44.length m43) (hs130.cellAt 7 rfl rfl) ?_
      refine ops_R (runs_loadAgg (ad := ⟨b127, 0, none⟩) (cs := [(.string r118.1), (.int .i64 r118.2.1)]) (by kernel_rfl) (cells_sub (hs130.heapAt 0 rfl) rfl)) ?_
      refine ops_new (fun b => .slice (some ⟨b, 0, none⟩) 1 1) (.cells [(.string r118.1), (.int .i64 r118.2.1)].toArray 33 (0, 0)) hs130 (by kernel_rfl) (fun b147 w145 hs146 => ?_)
      have hs148 := St.f7 hs146
      obtain ⟨h153, hm⟩ := need_some hm
      refine ops_appendK kEn (bytes := 24) (a' := (some ⟨b147, 0, none⟩)) (c' := 1) (l := q44) (m := [(⟨r118.1, r118.2.1⟩ : TEn)]) hs148 (by kernel_rfl) (by simp) (cells_blk (hs148.heapAt 1 rfl)) (by unfold maxLen; (try simp only [List.length_cons, List.length_nil]); omega) (by (try simp only [List.length_cons, List.length_nil]); omega) (fun a149 c150 w151 hs152 => ?_)
      have hs156 := St.f8 hs152
      refine ops_store (off := 0) (cs := [(.slice m42 q44.length m43)]) (vs := [(.slice a149 ((q44 ++ [(⟨r118.1, r118.2.1⟩ : TEn)]).length) c150)]) hs156 (by kernel_rfl) (by simp) rfl (fun w154 hs155 => ?_)
      have hs157 : St B w108 lf109 w154 [blk b7 (.cells [(.slice a149 ((q44 ++ [(⟨r118.1, r118.2.1⟩ : TEn)]).length) c150)].toArray 37 (0, 0)), kEn.row a149 c150 (q44 ++ [(⟨r118.1, r118.2.1⟩ : TEn)]), blk b147 (.cells [(.string r118.1), (.int .i64 r118.2.1)].toArray 33 (0, 0)), blk b127 (.cells [(.string r118.1), (.int .i64 r118.2.1)].toArray 33 (0, 0)), blk b16 (.cells [(.pointer (some ⟨vb, 0, none⟩)), (.int .i64 gw), (.int .i64 gi), (.int .i64 gb), (.int .i64 n_)].toArray 164 (0, 0)), viewA (ptr vb) img l, blk l48 (.loop { rc49 with state := .busy }), blk b10 (.cells [(.int .i64 0)].toArray 34 (0, 0)), blk b22 (.cells [(.pointer (some ⟨vb, 0, none⟩)), (.int .i64 gw), (.int .i64 gi), (.int .i64 gb), (.pointer (some ⟨b16, 0, none⟩))].toArray 97 (0, 0)), blk b4 (.cells [(.int .i64 gw), (.int .i64 gi), (.int .i64 gb)].toArray 31 (0, 0))] := hs155
      refine zD ?_
      refine normal_block ?_
      have hs158 := St.f9 hs157
      have hs159 := St.f1 hs158
      have hs160 := St.f2 hs159
      have hs161 := St.f9 hs160
      have hs162 := St.f6 hs161
      have hs163 := St.f7 hs162
      have hs164 := St.f9 hs163
      have hs165 := St.f9 hs164
      have hs166 := St.tk8 hs165
      rw [hc41] at hm
      exact ⟨((q44 ++ [(⟨r118.1, r118.2.1⟩ : TEn)]), a149, c150), hm, hs166⟩
    ·
     have h133p : ¬ (r118.2.2 = 0) := of_decide_eq_false (bnot_true h133)
     replace hm := ite_no hm h133p
     refine W.sr fun K167 hK167 => ?_
     refine zR 1 ?_
     have hs170 := St.f7 hs130
     refine ops_store (off := 0) (cs := [(.slice m42 q44.length m43)]) (vs := [(.slice none 0 0)]) hs170 (by kernel_rfl) (by simp) rfl (fun w168 hs169 => ?_)
     have hs171 : St B w108 lf109 w168 [blk b7 (.cells [(.slice none 0 0)].toArray 37 (0, 0)), blk b127 (.cells [(.string r118.1), (.int .i64 r118.2.1)].toArray 33 (0, 0)), blk b16 (.cells [(.pointer (some ⟨vb, 0, none⟩)), (.int .i64 gw), (.int .i64 gi), (.int .i64 gb), (.int .i64 n_)].toArray 164 (0, 0)), viewA (ptr vb) img l, blk l48 (.loop { rc49 with state := .busy }), blk b10 (.cells [(.int .i64 0)].toArray 34 (0, 0)), blk b22 (.cells [(.pointer (some ⟨vb, 0, none⟩)), (.int .i64 gw), (.int .i64 gi), (.int .i64 gb), (.pointer (some ⟨b16, 0, none⟩))].toArray 97 (0, 0)), kEn.row m42 m43 q44, blk b4 (.cells [(.int .i64 gw), (.int .i64 gi), (.int .i64 gb)].toArray 31 (0, 0))] := hs169
     have hs174 := St.f5 hs171
     refine ops_store (off := 0) (cs := [(.int .i64 0)]) (vs := [(.int .i64 r118.2.2)]) hs174 (by kernel_rfl) (by simp) rfl (fun w172 hs173 => ?_)
     have hs175 : St B w108 lf109 w172 [blk b10 (.cells [(.int .i64 r118.2.2)].toArray 34 (0, 0)), blk b7 (.cells [(.slice none 0 0)].toArray 37 (0, 0)), blk b127 (.cells [(.string r118.1), (.int .i64 r118.2.1)].toArray 33 (0, 0)), blk b16 (.cells [(.pointer (some ⟨vb, 0, none⟩)), (.int .i64 gw), (.int .i64 gi), (.int .i64 gb), (.int .i64 n_)].toArray 164 (0, 0)), viewA (ptr vb) img l, blk l48 (.loop { rc49 with state := .busy }), blk b22 (.cells [(.pointer (some ⟨vb, 0, none⟩)), (.int .i64 gw), (.int .i64 gi), (.int .i64 gb), (.pointer (some ⟨b16, 0, none⟩))].toArray 97 (0, 0)), kEn.row m42 m43 q44, blk b4 (.cells [(.int .i64 gw), (.int .i64 gi), (.int .i64 gb)].toArray 31 (0, 0))] := hs173
     refine zD (hK167 _ _ ?_)
     refine W.ret (ret_seq (ret_block ?_))
     have hs176 := St.f8 hs175
     have hs177 := St.f2 hs176
     have hs178 := St.f7 hs177
     have hs179 := St.f5 hs178
     have hs180 := St.f6 hs179
     have hs181 := St.f5 hs180
     have hs182 := St.f7 hs181
     have hs183 := St.tk7 hs182
     exact ⟨rfl, r118.2.2, hm, hs183⟩
  ·
   obtain ⟨h15p, hm⟩ := iN hm h15
   refine zC00 hs9 (eopen_dir (gw := gw) (gi := gi) (gb := gb) (n_ := n_) (hv := (hs9.entAt 3 rfl viewA_at)) (hP := h14p) (hK := h15p) B _) fun w184 hs186 => ?_
   refine zR 3 ?_
   refine zN [(.pointer none), (.int .i64 0), (.int .i64 0), (.int .i64 0), (.pointer none)] 97 hs186 fun b189 w187 hs188 => ?_
   refine ops_store (off := 0) (cs := [(.pointer none), (.int .i64 0), (.int .i64 0), (.int .i64 0), (.pointer none)]) (vs := [(.pointer none), (.int .i64 0), (.int .i64 0), (.int .i64 0), (.pointer none)]) hs188 (by kernel_rfl) (by simp) rfl (fun w190 hs191 => ?_)
   have hs192 : St B w l0 w190 [blk b189 (.cells [(.pointer none), (.int .i64 0), (.int .i64 0), (.int .i64 0), (.pointer none)].toArray 97 (0, 0)), blk b10 (.cells [(.int .i64 0)].toArray 34 (0, 0)), blk b7 (.cells [(.slice none 0 0)].toArray 37 (0, 0)), blk b4 (.cells [(.int .i64 gw), (.int .i64 gi), (.int .i64 gb)].toArray 31 (0, 0)), viewA (ptr vb) img l] := hs191
   have hs195 := St.f1 hs192
   refine ops_store (off := 0) (cs := [(.int .i64 0)]) (vs := [(.int .i64 10)]) hs195 (by kernel_rfl) (by simp) rfl (fun w193 hs194 => ?_)
   have hs196 : St B w l0 w193 [blk b10 (.cells [(.int .i64 10)].toArray 34 (0, 0)), blk b189 (.cells [(.pointer none), (.int .i64 0), (.int .i64 0), (.int .i64 0), (.pointer none)].toArray 97 (0, 0)), blk b7 (.cells [(.slice none 0 0)].toArray 37 (0, 0)), blk b4 (.cells [(.int .i64 gw), (.int .i64 gi), (.int .i64 gb)].toArray 31 (0, 0)), viewA (ptr vb) img l] := hs194
   refine zD (hK13 _ _ ?_)
   refine W.seq fun K197 hK197 => ?_
   refine W.sr fun K198 hK198 => ?_
   refine zL ⟨b10, 0, none⟩ (.int .i64 10) (hs196.cellAt 0 rfl rfl) ?_
   refine zE 1 (hK198 _ _ ?_)
   refine W.cond_true true (by kernel_rfl) rfl ?_
   refine W.seq fun K199 hK199 => ?_
   have hs200 := hs196.drew
   refine W.regionD [(0, 0), (0, 0), (3, 1)] (fun w_ => St B w l0 w_ [blk b10 (.cells [(.int .i64 10)].toArray 34 (0, 0)), blk b189 (.cells [(.pointer none), (.int .i64 0), (.int .i64 0), (.int .i64 0), (.pointer none)].toArray 97 (0, 0)), blk b7 (.cells [(.slice none 0 0)].toArray 37 (0, 0)), blk b4 (.cells [(.int .i64 gw), (.int .i64 gi), (.int .i64 gb)].toArray 31 (0, 0)), viewA (ptr vb) img l]) (by kernel_rfl) hs200 ?_
   refine any_R 0 (by kernel_rfl) (fun _ hS_ => runs_load (ad := ⟨b10, 0, none⟩) (v := (.int .i64 10)) (by kernel_rfl) (hS_.cellAt 0 rfl rfl)) hs200 ?_
   refine any_step 1 (by kernel_rfl) (by kernel_rfl) ?_
   have hs203 := St.f2 hs200
   refine ops_store (off := 0) (cs := [(.slice none 0 0)]) (vs := [(.slice none 0 0)]) hs203 (by kernel_rfl) (by simp) rfl (fun w201 hs202 => ?_)
   have hs204 : St B w l0 w201 [blk b7 (.cells [(.slice none 0 0)].toArray 37 (0, 0)), blk b10 (.cells [(.int .i64 10)].toArray 34 (0, 0)), blk b189 (.cells [(.pointer none), (.int .i64 0), (.int .i64 0), (.int .i64 0), (.pointer none)].toArray 97 (0, 0)), blk b4 (.cells [(.int .i64 gw), (.int .i64 gi), (.int .i64 gb)].toArray 31 (0, 0)), viewA (ptr vb) img l] := hs202
   have hs205 := St.f4 hs204
   have hs206 := St.f4 hs205
   have hs207 := St.f2 hs206
   have hs208 := St.f4 hs207
   have hs209 := St.f4 hs208
   refine ops_done (by kernel_rfl) ⟨hs209, ?_⟩
   refine any_step 2 (by kernel_rfl) (by kernel_rfl) ?_
   have hs212 := St.f1 hs204
   refine ops_store (off := 0) (cs := [(.int .i64 10)]) (vs := [(.int .i64 10)]) hs212 (by kernel_rfl) (by simp) rfl (fun w210 hs211 => ?_)
   have hs213 : St B w l0 w210 [blk b10 (.cells [(.int .i64 10)].toArray 34 (0, 0)), blk b7 (.cells [(.slice none 0 0)].toArray 37 (0, 0)), blk b189 (.cells [(.pointer none), (.int .i64 0), (.int .i64 0), (.int .i64 0), (.pointer none)].toArray 97 (0, 0)), blk b4 (.cells [(.int .i64 gw), (.int .i64 gi), (.int .i64 gb)].toArray 31 (0, 0)), viewA (ptr vb) img l] := hs211
   have hs214 := St.f4 hs213
   have hs215 := St.f4 hs214
   have hs216 := St.f3 hs215
   have hs217 := St.f4 hs216
   have hs218 := St.f4 hs217
   refine ops_done (by kernel_rfl) ⟨hs218, ?_⟩
   refine any_done (by kernel_rfl) ?_
   refine hK199 _ _ ?_
   refine W.ret (ret_seq ?_)
   have hs219 := St.knil kEn hs213
   obtain rfl := some_inj hm
   have hs220 := St.f5 hs219
   have hs221 := St.f1 hs220
   have hs222 := St.tk2 hs221
   refine ret_of (.tuple #[(.slice none 0 0), (.int .i64 10)]) (resS_of (by kernel_rfl) (resD_two rfl (.cell (ad := ⟨b7, 0, none⟩) (by kernel_rfl) (by kernel_rfl) (hs219.cellAt 2 rfl rfl)) (.cell (ad := ⟨b10, 0, none⟩) (by kernel_rfl) (by kernel_rfl) (hs219.cellAt 1 rfl rfl)))) ⟨_, ⟨none, 0, rfl, rfl⟩, hs222⟩
 ·
  obtain ⟨h14p, hm⟩ := iN hm h14
  refine zC00 hs9 (eopen_err (gw := gw) (gi := gi) (gb := gb) (n_ := n_) (hv := (hs9.entAt 3 rfl viewA_at)) (hN := h14p) B _) fun w223 hs225 => ?_
  refine zR 3 ?_
  refine zN [(.pointer none), (.int .i64 0), (.int .i64 0), (.int .i64 0), (.pointer none)] 97 hs225 fun b228 w226 hs227 => ?_
  refine ops_store (off := 0) (cs := [(.pointer none), (.int .i64 0), (.int .i64 0), (.int .i64 0), (.pointer none)]) (vs := [(.pointer none), (.int .i64 0), (.int .i64 0), (.int .i64 0), (.pointer none)]) hs227 (by kernel_rfl) (by simp) rfl (fun w229 hs230 => ?_)
  have hs231 : St B w l0 w229 [blk b228 (.cells [(.pointer none), (.int .i64 0), (.int .i64 0), (.int .i64 0), (.pointer none)].toArray 97 (0, 0)), blk b10 (.cells [(.int .i64 0)].toArray 34 (0, 0)), blk b7 (.cells [(.slice none 0 0)].toArray 37 (0, 0)), blk b4 (.cells [(.int .i64 gw), (.int .i64 gi), (.int .i64 gb)].toArray 31 (0, 0)), viewA (ptr vb) img l] := hs230
  have hs234 := St.f1 hs231
  refine ops_store (off := 0) (cs := [(.int .i64 0)]) (vs := [(.int .i64 ((igetM img l gw gi gb n_).2))]) hs234 (by kernel_rfl) (by simp) rfl (fun w232 hs233 => ?_)
  have hs235 : St B w l0 w232 [blk b10 (.cells [(.int .i64 ((igetM img l gw gi gb n_).2))].toArray 34 (0, 0)), blk b228 (.cells [(.pointer none), (.int .i64 0), (.int .i64 0), (.int .i64 0), (.pointer none)].toArray 97 (0, 0)), blk b7 (.cells [(.slice none 0 0)].toArray 37 (0, 0)), blk b4 (.cells [(.int .i64 gw), (.int .i64 gi), (.int .i64 gb)].toArray 31 (0, 0)), viewA (ptr vb) img l] := hs233
  refine zD (hK13 _ _ ?_)
  refine W.seq fun K236 hK236 => ?_
  refine W.sr fun K237 hK237 => ?_
  refine zL ⟨b10, 0, none⟩ (.int .i64 ((igetM img l gw gi gb n_).2)) (hs235.cellAt 0 rfl rfl) ?_
  refine zE 1 (hK237 _ _ ?_)
  refine W.cond (!decide ((igetM img l gw gi gb n_).2 = 0)) (by kernel_rfl) (fun h238 => ?_) (fun h238 => ?_)
  rotate_left
  ·
   have h238p : (igetM img l gw gi gb n_).2 = 0 := of_decide_eq_true (bnot_false h238)
   exact absurd h238p h14p
  ·
   have h238p : ¬ ((igetM img l gw gi gb n_).2 = 0) := of_decide_eq_false (bnot_true h238)
   replace hm := ite_no hm h238p
   refine W.seq fun K239 hK239 => ?_
   have hs240 := hs235.drew
   refine W.regionD [(0, 0), (0, 0), (3, 1)] (fun w_ => St B w l0 w_ [blk b10 (.cells [(.int .i64 ((igetM img l gw gi gb n_).2))].toArray 34 (0, 0)), blk b228 (.cells [(.pointer none), (.int .i64 0), (.int .i64 0), (.int .i64 0), (.pointer none)].toArray 97 (0, 0)), blk b7 (.cells [(.slice none 0 0)].toArray 37 (0, 0)), blk b4 (.cells [(.int .i64 gw), (.int .i64 gi), (.int .i64 gb)].toArray 31 (0, 0)), viewA (ptr vb) img l]) (by kernel_rfl) hs240 ?_
   refine any_R 0 (by kernel_rfl) (fun _ hS_ => runs_load (ad := ⟨b10, 0, none⟩) (v := (.int .i64 ((igetM img l gw gi gb n_).2))) (by kernel_rfl) (hS_.cellAt 0 rfl rfl)) hs240 ?_
   refine any_step 1 (by kernel_rfl) (by kernel_rfl) ?_
   have hs243 := St.f2 hs240
   refine ops_store (off := 0) (cs := [(.slice none 0 0)]) (vs := [(.slice none 0 0)]) hs243 (by kernel_rfl) (by simp) rfl (fun w241 hs242 => ?_)
   have hs244 : St B w l0 w241 [blk b7 (.cells [(.slice none 0 0)].toArray 37 (0, 0)), blk b10 (.cells [(.int .i64 ((igetM img l gw gi gb n_).2))].toArray 34 (0, 0)), blk b228 (.cells [(.pointer none), (.int .i64 0), (.int .i64 0), (.int .i64 0), (.pointer none)].toArray 97 (0, 0)), blk b4 (.cells [(.int .i64 gw), (.int .i64 gi), (.int .i64 gb)].toArray 31 (0, 0)), viewA (ptr vb) img l] := hs242
   have hs245 := St.f4 hs244
   have hs246 := St.f4 hs245
   have hs247 := St.f2 hs246
   have hs248 := St.f4 hs247
   have hs249 := St.f4 hs248
   refine ops_done (by kernel_rfl) ⟨hs249, ?_⟩
   refine any_step 2 (by kernel_rfl) (by kernel_rfl) ?_
   have hs252 := St.f1 hs244
   refine ops_store (off := 0) (cs := [(.int .i64 ((igetM img l gw gi gb n_).2))]) (vs := [(.int .i64 ((igetM img l gw gi gb n_).2))]) hs252 (by kernel_rfl) (by simp) rfl (fun w250 hs251 => ?_)
   have hs253 : St B w l0 w250 [blk b10 (.cells [(.int .i64 ((igetM img l gw gi gb n_).2))].toArray 34 (0, 0)), blk b7 (.cells [(.slice none 0 0)].toArray 37 (0, 0)), blk b228 (.cells [(.pointer none), (.int .i64 0), (.int .i64 0), (.int .i64 0), (.pointer none)].toArray 97 (0, 0)), blk b4 (.cells [(.int .i64 gw), (.int .i64 gi), (.int .i64 gb)].toArray 31 (0, 0)), viewA (ptr vb) img l] := hs251
   have hs254 := St.f4 hs253
   have hs255 := St.f4 hs254
   have hs256 := St.f3 hs255
   have hs257 := St.f4 hs256
   have hs258 := St.f4 hs257
   refine ops_done (by kernel_rfl) ⟨hs258, ?_⟩
   refine any_done (by kernel_rfl) ?_
   refine hK239 _ _ ?_
   refine W.ret (ret_seq ?_)
   have hs259 := St.knil kEn hs253
   obtain rfl := some_inj hm
   have hs260 := St.f5 hs259
   have hs261 := St.f1 hs260
   have hs262 := St.tk2 hs261
   refine ret_of (.tuple #[(.slice none 0 0), (.int .i64 ((igetM img l gw gi gb n_).2))]) (resS_of (by kernel_rfl) (resD_two rfl (.cell (ad := ⟨b7, 0, none⟩) (by kernel_rfl) (by kernel_rfl) (hs259.cellAt 2 rfl rfl)) (.cell (ad := ⟨b10, 0, none⟩) (by kernel_rfl) (by kernel_rfl) (hs259.cellAt 1 rfl rfl)))) ⟨_, ⟨none, 0, rfl, rfl⟩, hs262⟩

theorem eList_nil {gw gi gb n_ : Int} (B : Nat) (w : World) : Spec Tryz.prog 14 #[(.pointer none), (.agg #[(.int .i64 gw), (.int .i64 gi), (.int .i64 gb)]), (.int .i64 n_)] B w [] (fun v H' => v = (.tuple #[(.slice none 0 0), (.int .i64 2)]) ∧ H' = []) := by
 refine spec_Q Tryz.func14 rfl fun hs => ?_
 refine W.sr fun K1 hK1 => ?_
 refine zN [(.int .i64 gw), (.int .i64 gi), (.int .i64 gb)] 31 hs fun b4 w2 hs3 => ?_
 refine zN [(.slice none 0 0)] 37 hs3 fun b7 w5 hs6 => ?_
 refine zN [(.int .i64 0)] 34 hs6 fun b10 w8 hs9 => ?_
 refine zD (hK1 _ _ ?_)
 refine W.sr fun K11 hK11 => ?_
 refine zR 1 ?_
 refine ops_R (runs_loadAgg (ad := ⟨b4, 0, none⟩) (cs := [(.int .i64 gw), (.int .i64 gi), (.int .i64 gb)]) (by kernel_rfl) (cells_sub (hs9.heapAt 2 rfl) rfl)) ?_
 refine zR 1 ?_
 refine zC00 hs9 (eopen_nil (gw := gw) (gi := gi) (gb := gb) (n_ := n_) B _) fun w12 hs14 => ?_
 refine zR 3 ?_
 refine zN [(.pointer none), (.int .i64 0), (.int .i64 0), (.int .i64 0), (.pointer none)] 97 hs14 fun b17 w15 hs16 => ?_
 refine ops_store (off := 0) (cs := [(.pointer none), (.int .i64 0), (.int .i64 0), (.int .i64 0), (.pointer none)]) (vs := [(.pointer none), (.int .i64 0), (.int .i64 0), (.int .i64 0), (.pointer none)]) hs16 (by kernel_rfl) (by simp) rfl (fun w18 hs19 => ?_)
 have hs20 : St B w [] w18 [blk b17 (.cells [(.pointer none), (.int .i64 0), (.int .i64 0), (.int .i64 0), (.pointer none)].toArray 97 (0, 0)), blk b10 (.cells [(.int .i64 0)].toArray 34 (0, 0)), blk b7 (.cells [(.slice none 0 0)].toArray 37 (0, 0)), blk b4 (.cells [(.int .i64 gw), (.int .i64 gi), (.int .i64 gb)].toArray 31 (0, 0))] := hs19
 have hs23 := St.f1 hs20
 refine ops_store (off := 0) (cs := [(.int .i64 0)]) (vs := [(.int .i64 2)]) hs23 (by kernel_rfl) (by simp) rfl (fun w21 hs22 => ?_)
 have hs24 : St B w [] w21 [blk b10 (.cells [(.int .i64 2)].toArray 34 (0, 0)), blk b17 (.cells [(.pointer none), (.int .i64 0), (.int .i64 0), (.int .i64 0), (.pointer none)].toArray 97 (0, 0)), blk b7 (.cells [(.slice none 0 0)].toArray 37 (0, 0)), blk b4 (.cells [(.int .i64 gw), (.int .i64 gi), (.int .i64 gb)].toArray 31 (0, 0))] := hs22
 refine zD (hK11 _ _ ?_)
 refine W.seq fun K25 hK25 => ?_
 refine W.sr fun K26 hK26 => ?_
 refine zL ⟨b10, 0, none⟩ (.int .i64 2) (hs24.cellAt 0 rfl rfl) ?_
 refine zE 1 (hK26 _ _ ?_)
 refine W.cond_true true (by kernel_rfl) rfl ?_
 refine W.seq fun K27 hK27 => ?_
 have hs28 := hs24.drew
 refine W.regionD [(0, 0), (0, 0), (3, 1)] (fun w_ => St B w [] w_ [blk b10 (.cells [(.int .i64 2)].toArray 34 (0, 0)), blk b17 (.cells [(.pointer none), (.int .i64 0), (.int .i64 0), (.int .i64 0), (.pointer none)].toArray 97 (0, 0)), blk b7 (.cells [(.slice none 0 0)].toArray 37 (0, 0)), blk b4 (.cells [(.int .i64 gw), (.int .i64 gi), (.int .i64 gb)].toArray 31 (0, 0))]) (by kernel_rfl) hs28 ?_
 refine any_R 0 (by kernel_rfl) (fun _ hS_ => runs_load (ad := ⟨b10, 0, none⟩) (v := (.int .i64 2)) (by kernel_rfl) (hS_.cellAt 0 rfl rfl)) hs28 ?_
 refine any_step 1 (by kernel_rfl) (by kernel_rfl) ?_
 have hs31 := St.f2 hs28
 refine ops_store (off := 0) (cs := [(.slice none 0 0)]) (vs := [(.slice none 0 0)]) hs31 (by kernel_rfl) (by simp) rfl (fun w29 hs30 => ?_)
 have hs32 : St B w [] w29 [blk b7 (.cells [(.slice none 0 0)].toArray 37 (0, 0)), blk b10 (.cells [(.int .i64 2)].toArray 34 (0, 0)), blk b17 (.cells [(.pointer none), (.int .i64 0), (.int .i64 0), (.int .i64 0), (.pointer none)].toArray 97 (0, 0)), blk b4 (.cells [(.int .i64 gw), (.int .i64 gi), (.int .i64 gb)].toArray 31 (0, 0))] := hs30
 have hs33 := St.f3 hs32
 have hs34 := St.f1 hs33
 have hs35 := St.f3 hs34
 have hs36 := St.f3 hs35
 refine ops_done (by kernel_rfl) ⟨hs36, ?_⟩
 refine any_step 2 (by kernel_rfl) (by kernel_rfl) ?_
 have hs39 := St.f1 hs32
 refine ops_store (off := 0) (cs := [(.int .i64 2)]) (vs := [(.int .i64 2)]) hs39 (by kernel_rfl) (by simp) rfl (fun w37 hs38 => ?_)
 have hs40 : St B w [] w37 [blk b10 (.cells [(.int .i64 2)].toArray 34 (0, 0)), blk b7 (.cells [(.slice none 0 0)].toArray 37 (0, 0)), blk b17 (.cells [(.pointer none), (.int .i64 0), (.int .i64 0), (.int .i64 0), (.pointer none)].toArray 97 (0, 0)), blk b4 (.cells [(.int .i64 gw), (.int .i64 gi), (.int .i64 gb)].toArray 31 (0, 0))] := hs38
 have hs41 := St.f3 hs40
 have hs42 := St.f2 hs41
 have hs43 := St.f3 hs42
 have hs44 := St.f3 hs43
 refine ops_done (by kernel_rfl) ⟨hs44, ?_⟩
 refine any_done (by kernel_rfl) ?_
 refine hK27 _ _ ?_
 refine W.ret (ret_seq ?_)
 have hs45 := St.tk0 hs40
 refine ret_of (.tuple #[(.slice none 0 0), (.int .i64 2)]) (resS_of (by kernel_rfl) (resD_two rfl (.cell (ad := ⟨b7, 0, none⟩) (by kernel_rfl) (by kernel_rfl) (hs40.cellAt 1 rfl rfl)) (.cell (ad := ⟨b10, 0, none⟩) (by kernel_rfl) (by kernel_rfl) (hs40.cellAt 0 rfl rfl)))) ⟨_, ⟨rfl, rfl⟩, hs45⟩

end Go.Proofs.YtmmclabkkigiaaaGreatDoor

set_option linter.unusedVariables false
set_option maxRecDepth 20000
set_option maxHeartbeats 8000000
namespace Go.Proofs.YtmmclabkkigiaaaGreatDoor
open Go Go.RowKit
set_option linter.unusedSimpArgs false
set_option linter.unusedVariables false

def works15_M  : Option (Bool) :=
 need ((fmtW 1 2 9).length ≤ 17592186044415) <|
(eFind_M (fmtW 1 2 9) ([]) 1 2 9 1 (ByteArray.mk #[97])).bind fun r30 =>
(eAdd_M (fmtW 1 2 9) ([]) 1 2 9 1 (ByteArray.mk #[97]) 1).bind fun r43 =>
(eFind_M (fmtW 1 2 9) r43.2 1 2 9 1 (ByteArray.mk #[97])).bind fun r50 =>
(eAdd_M (fmtW 1 2 9) r43.2 1 2 9 1 (ByteArray.mk #[97]) 1).bind fun r62 =>
(eAdd_M (fmtW 1 2 9) r62.2 1 2 9 1 (ByteArray.mk #[97, 47, 98]) 1).bind fun r69 =>
(eRemove_M (fmtW 1 2 9) r69.2 1 2 9 1 (ByteArray.mk #[97])).bind fun r75 =>
(eList_M (fmtW 1 2 9) r75.2 1 2 9 1).bind fun r81 =>
if r30.2.2.2 = 6 then (if r43.1 = 0 then (if r50.2.2.2 = 0 then (if r50.1 = (ByteArray.mk #[97]) ∧ r50.2.1 = 1 then ((ebegin_M (ByteArray.mk #[97])).bind fun r93 =>
if r50.2.2.1 = r93 then (if r62.1 = 9 then (if r69.1 = 13 then (if r75.1 = 0 then (if r81.2 = 0 then (some (decide ((r81.1.length : Int) = 0))) else (some false)) else (some false)) else (some false)) else (some false)) else (some false)) else (some false)) else (some false)) else (some false)) else (some false)

theorem works15_walk   {r : Bool} (B : Nat) (w : World) (hG : 1 < B) (hT : CellsAt (some ⟨1, 0, none⟩) tab8 w) (hm : works15_M = some r) : Spec Tryz.prog 8 #[] B w [] (fun v H' => v = .bool r ∧ H' = []) := by
 refine spec_Q Tryz.func8 rfl fun hs => ?_
 unfold works15_M at hm
 refine W.sr fun K1 hK1 => ?_
 refine zE 1 (hK1 _ _ ?_)
 refine W.sr fun K2 hK2 => ?_
 refine zR 1 ?_
 refine zN [(.int .i64 0), (.int .i64 0), (.int .i64 0)] 31 hs fun b5 w3 hs4 => ?_
 refine ops_store (off := 0) (cs := [(.int .i64 0), (.int .i64 0), (.int .i64 0)]) (vs := [(.int .i64 1), (.int .i64 2), (.int .i64 9)]) hs4 (by kernel_rfl) (by simp) rfl (fun w6 hs7 => ?_)
 have hs8 : St B w [] w6 [blk b5 (.cells [(.int .i64 1), (.int .i64 2), (.int .i64 9)].toArray 31 (0, 0))] := hs7
 refine zD (hK2 _ _ ?_)
 refine W.sr fun K9 hK9 => ?_
 refine ops_R (runs_loadAgg (ad := ⟨b5, 0, none⟩) (cs := [(.int .i64 1), (.int .i64 2), (.int .i64 9)]) (by kernel_rfl) (cells_sub (hs8.heapAt 0 rfl) rfl)) ?_
 refine ops_call0 hs8 (by kernel_rfl) (format_spec (gw := 1) (gi := 2) (gb := 9) B _) ?_
 rintro _ _ w12 ⟨a10, c11, rfl, rfl⟩ hs13
 have hs14 := St.ap1 hs13
 obtain ⟨h16, hm⟩ := need_some hm
 refine ops_call0 hs14 (by kernel_rfl) (new_spec (hc := (St.kcells kU64 hs14 0 rfl)) (hn := (St.capnil kU64 hs14 0 rfl)) (hsz := h16) B _) ?_
 rintro _ _ w17 ⟨b15, rfl, rfl⟩ hs18
 have hs19 := St.ap1 hs18
 refine zE 1 (hK9 _ _ ?_)
 refine W.seq fun K20 hK20 => ?_
 refine W.sr fun K21 hK21 => ?_
 refine zE 2 (hK21 _ _ ?_)
 refine W.cond_false false (by kernel_rfl) rfl ?_
 refine W.skip ?_
 refine hK20 _ _ ?_
 refine W.sr fun K22 hK22 => ?_
 refine zR 1 ?_
 refine zN [(.string ByteArray.empty), (.int .i64 0)] 33 hs19 fun b25 w23 hs24 => ?_
 refine ops_store (off := 0) (cs := [(.string ByteArray.empty), (.int .i64 0)]) (vs := [(.string (ByteArray.mk #[97])), (.int .i64 1)]) hs24 (by kernel_rfl) (by simp) rfl (fun w26 hs27 => ?_)
 have hs28 : St B w [] w26 [blk b25 (.cells [(.string (ByteArray.mk #[97])), (.int .i64 1)].toArray 33 (0, 0)), viewA (ptr b15) (fmtW 1 2 9) ([]), kU64.row a10 c11 (fmtW 1 2 9), blk b5 (.cells [(.int .i64 1), (.int .i64 2), (.int .i64 9)].toArray 31 (0, 0))] := hs27
 refine zD (hK22 _ _ ?_)
 refine W.sr fun K29 hK29 => ?_
 refine zR 1 ?_
 refine ops_R (runs_loadAgg (ad := ⟨b5, 0, none⟩) (cs := [(.int .i64 1), (.int .i64 2), (.int .i64 9)]) (by kernel_rfl) (cells_sub (hs28.heapAt 3 rfl) rfl)) ?_
 obtain ⟨r30, h31, hm⟩ := bind_some hm
 have hs32 := St.f1 hs28
 refine zC11 hs32 (eFind_walk (vb := b15) (gw := 1) (gi := 2) (gb := 9) (n_ := 1) (tx_ := (ByteArray.mk #[97])) (img := (fmtW 1 2 9)) (l := []) (hm := h31) B _) fun w33 hs35 => ?_
 refine zR 4 ?_
 refine zN [(.string ByteArray.empty), (.int .i64 0)] 33 hs35 fun b38 w36 hs37 => ?_
 refine ops_store (off := 0) (cs := [(.string ByteArray.empty), (.int .i64 0)]) (vs := [(.string r30.1), (.int .i64 r30.2.1)]) hs37 (by kernel_rfl) (by simp) rfl (fun w39 hs40 => ?_)
 have hs41 : St B w [] w39 [blk b38 (.cells [(.string r30.1), (.int .i64 r30.2.1)].toArray 33 (0, 0)), viewA (ptr b15) (fmtW 1 2 9) ([]), blk b25 (.cells [(.string (ByteArray.mk #[97])), (.int .i64 1)].toArray 33 (0, 0)), kU64.row a10 c11 (fmtW 1 2 9), blk b5 (.cells [(.int .i64 1), (.int .i64 2), (.int .i64 9)].toArray 31 (0, 0))] := hs40
 refine zE 2 (hK29 _ _ ?_)
 refine W.sr fun K42 hK42 => ?_
 refine zR 1 ?_
 refine ops_R (runs_loadAgg (ad := ⟨b5, 0, none⟩) (cs := [(.int .i64 1), (.int .i64 2), (.int .i64 9)]) (by kernel_rfl) (cells_sub (hs41.heapAt 4 rfl) rfl)) ?_
 refine ops_R (runs_loadAgg (ad := ⟨b25, 0, none⟩) (cs := [(.string (ByteArray.mk #[97])), (.int .i64 1)]) (by kernel_rfl) (cells_sub (hs41.heapAt 2 rfl) rfl)) ?_
 obtain ⟨r43, h44, hm⟩ := bind_some hm
 have hs45 := St.f1 hs41
 refine zC11 hs45 (eAdd_walk (vb := b15) (hG := hG) (hT := (hs41.oldCells hT)) (gw := 1) (gi := 2) (gb := 9) (n_ := 1) (xn_ := (ByteArray.mk #[97])) (xi_ := 1) (img := (fmtW 1 2 9)) (l := []) (hm := h44) B _) fun w46 hs48 => ?_
 refine zE 1 (hK42 _ _ ?_)
 refine W.sr fun K49 hK49 => ?_
 refine zR 1 ?_
 refine ops_R (runs_loadAgg (ad := ⟨b5, 0, none⟩) (cs := [(.int .i64 1), (.int .i64 2), (.int .i64 9)]) (by kernel_rfl) (cells_sub (hs48.heapAt 4 rfl) rfl)) ?_
 obtain ⟨r50, h51, hm⟩ := bind_some hm
 refine zC11 hs48 (eFind_walk (vb := b15) (gw := 1) (gi := 2) (gb := 9) (n_ := 1) (tx_ := (ByteArray.mk #[97])) (img := (fmtW 1 2 9)) (l := r43.2) (hm := h51) B _) fun w52 hs54 => ?_
 refine zR 4 ?_
 refine zN [(.string ByteArray.empty), (.int .i64 0)] 33 hs54 fun b57 w55 hs56 => ?_
 refine ops_store (off := 0) (cs := [(.string ByteArray.empty), (.int .i64 0)]) (vs := [(.string r50.1), (.int .i64 r50.2.1)]) hs56 (by kernel_rfl) (by simp) rfl (fun w58 hs59 => ?_)
 have hs60 : St B w [] w58 [blk b57 (.cells [(.string r50.1), (.int .i64 r50.2.1)].toArray 33 (0, 0)), viewA (ptr b15) (fmtW 1 2 9) r43.2, blk b38 (.cells [(.string r30.1), (.int .i64 r30.2.1)].toArray 33 (0, 0)), blk b25 (.cells [(.string (ByteArray.mk #[97])), (.int .i64 1)].toArray 33 (0, 0)), kU64.row a10 c11 (fmtW 1 2 9), blk b5 (.cells [(.int .i64 1), (.int .i64 2), (.int .i64 9)].toArray 31 (0, 0))] := hs59
 refine zE 2 (hK49 _ _ ?_)
 refine W.sr fun K61 hK61 => ?_
 refine zR 1 ?_
 refine ops_R (runs_loadAgg (ad := ⟨b5, 0, none⟩) (cs := [(.int .i64 1), (.int .i64 2), (.int .i64 9)]) (by kernel_rfl) (cells_sub (hs60.heapAt 5 rfl) rfl)) ?_
 refine ops_R (runs_loadAgg (ad := ⟨b25, 0, none⟩) (cs := [(.string (ByteArray.mk #[97])), (.int .i64 1)]) (by kernel_rfl) (cells_sub (hs60.heapAt 3 rfl) rfl)) ?_
 obtain ⟨r62, h63, hm⟩ := bind_some hm
 have hs64 := St.f1 hs60
 refine zC11 hs64 (eAdd_walk (vb := b15) (hG := hG) (hT := (hs60.oldCells hT)) (gw := 1) (gi := 2) (gb := 9) (n_ := 1) (xn_ := (ByteArray.mk #[97])) (xi_ := 1) (img := (fmtW 1 2 9)) (l := r43.2) (hm := h63) B _) fun w65 hs67 => ?_
 refine zE 1 (hK61 _ _ ?_)
 refine W.sr fun K68 hK68 => ?_
 refine zR 1 ?_
 refine ops_R (runs_loadAgg (ad := ⟨b5, 0, none⟩) (cs := [(.int .i64 1), (.int .i64 2), (.int .i64 9)]) (by kernel_rfl) (cells_sub (hs67.heapAt 5 rfl) rfl)) ?_
 refine zR 1 ?_
 obtain ⟨r69, h70, hm⟩ := bind_some hm
 refine zC11 hs67 (eAdd_walk (vb := b15) (hG := hG) (hT := (hs67.oldCells hT)) (gw := 1) (gi := 2) (gb := 9) (n_ := 1) (xn_ := (ByteArray.mk #[97, 47, 98])) (xi_ := 1) (img := (fmtW 1 2 9)) (l := r62.2) (hm := h70) B _) fun w71 hs73 => ?_
 refine zE 1 (hK68 _ _ ?_)
 refine W.sr fun K74 hK74 => ?_
 refine zR 1 ?_
 refine ops_R (runs_loadAgg (ad := ⟨b5, 0, none⟩) (cs := [(.int .i64 1), (.int .i64 2), (.int .i64 9)]) (by kernel_rfl) (cells_sub (hs73.heapAt 5 rfl) rfl)) ?_
 obtain ⟨r75, h76, hm⟩ := bind_some hm
 refine zC11 hs73 (eRemove_walk (vb := b15) (gw := 1) (gi := 2) (gb := 9) (n_ := 1) (tx_ := (ByteArray.mk #[97])) (img := (fmtW 1 2 9)) (l := r69.2) (hm := h76) B _) fun w77 hs79 => ?_
 refine zE 1 (hK74 _ _ ?_)
 refine W.sr fun K80 hK80 => ?_
 refine zR 1 ?_
 refine ops_R (runs_loadAgg (ad := ⟨b5, 0, none⟩) (cs := [(.int .i64 1), (.int .i64 2), (.int .i64 9)]) (by kernel_rfl) (cells_sub (hs79.heapAt 5 rfl) rfl)) ?_
 obtain ⟨r81, h82, hm⟩ := bind_some hm
 refine ops_call1 hs79 (by kernel_rfl) (eList_walk (vb := b15) (gw := 1) (gi := 2) (gb := 9) (n_ := 1) (img := (fmtW 1 2 9)) (l := r75.2) (hm := h82) B _) ?_
 rintro _ _ w85 ⟨a83, c84, rfl, rfl⟩ hs86
 have hs87 := St.ap2 hs86
 refine zE 5 (hK80 _ _ ?_)
 refine W.sr fun K88 hK88 => ?_
 refine zR 3 ?_
 rcases Bool.eq_false_or_eq_true (decide (r30.2.2.2 = 6)) with h89 | h89
 ·
  obtain ⟨h89p, hm⟩ := iY hm h89
  refine zS 60 h89 ?_
  refine zS 59 h89 ?_
  refine zR 4 ?_
  rcases Bool.eq_false_or_eq_true (decide (r43.1 = 0)) with h90 | h90
  ·
   obtain ⟨h90p, hm⟩ := iY hm h90
   refine zS 64 h90 ?_
   refine zS 62 h90 ?_
   refine zS 63 h90 ?_
   refine zR 4 ?_
   rcases Bool.eq_false_or_eq_true (decide (r50.2.2.2 = 0)) with h91 | h91
   ·
    obtain ⟨h91p, hm⟩ := iY hm h91
    refine zS 68 h91 ?_
    refine zS 66 h91 ?_
    refine zS 67 h91 ?_
    refine ops_R (runs_loadAgg (ad := ⟨b57, 0, none⟩) (cs := [(.string r50.1), (.int .i64 r50.2.1)]) (by kernel_rfl) (cells_sub (hs87.heapAt 2 rfl) rfl)) ?_
    refine ops_R (runs_loadAgg (ad := ⟨b25, 0, none⟩) (cs := [(.string (ByteArray.mk #[97])), (.int .i64 1)]) (by kernel_rfl) (cells_sub (hs87.heapAt 4 rfl) rfl)) ?_
    refine ops_R (v := (.bool ((r50.1 == (ByteArray.mk #[97])) && ((decide (r50.2.1 = 1)) && true)))) (runs_eq (b := ((r50.1 == (ByteArray.mk #[97])) && ((decide (r50.2.1 = 1)) && true))) (by kernel_rfl)) ?_
    refine zR 2 ?_
    rcases Bool.eq_false_or_eq_true ((r50.1 == (ByteArray.mk #[97])) && ((decide (r50.2.1 = 1)) && true)) with h92 | h92
    ·
     have h92p : r50.1 = (ByteArray.mk #[97]) ∧ r50.2.1 = 1 := by simpa using h92
     replace hm := ite_yes hm h92p
     refine zS 73 h92 ?_
     refine zS 71 h92 ?_
     refine zS 72 h92 ?_
     refine zR 1 ?_
     obtain ⟨r93, h94, hm⟩ := bind_some hm
     refine zC00 hs87 (ebegin_walk (tx_ := (ByteArray.mk #[97])) (hm := h94) B _) fun w95 hs97 => ?_
     refine zR 3 ?_
     rcases Bool.eq_false_or_eq_true (decide (r50.2.2.1 = r93)) with h98 | h98
     ·
      obtain ⟨h98p, hm⟩ := iY hm h98
      refine zS 78 h98 ?_
      refine zS 76 h98 ?_
      refine zS 77 h98 ?_
      refine zR 4 ?_
      rcases Bool.eq_false_or_eq_true (decide (r62.1 = 9)) with h99 | h99
      ·
       obtain ⟨h99p, hm⟩ := iY hm h99
       refine zS 82 h99 ?_
       refine zS 80 h99 ?_
       refine zS 81 h99 ?_
       refine zR 4 ?_
       rcases Bool.eq_false_or_eq_true (decide (r69.1 = 13)) with h100 | h100
       ·
        obtain ⟨h100p, hm⟩ := iY hm h100
        refine zS 86 h100 ?_
        refine zS 84 h100 ?_
        refine zS 85 h100 ?_
        refine zR 4 ?_
        rcases Bool.eq_false_or_eq_true (decide (r75.1 = 0)) with h101 | h101
        ·
         obtain ⟨h101p, hm⟩ := iY hm h101
         refine zS 90 h101 ?_
         refine zS 88 h101 ?_
         refine zS 89 h101 ?_
         refine zR 4 ?_
         rcases Bool.eq_false_or_eq_true (decide (r81.2 = 0)) with h102 | h102
         ·
          obtain ⟨h102p, hm⟩ := iY hm h102
          refine zS 94 h102 ?_
          refine zS 92 h102 ?_
          refine zS 93 h102 ?_
          refine zE 5 (hK88 _ _ ?_)
          refine W.ret ?_
          obtain rfl := some_inj hm
          have hs103 := St.tk0 hs97
          refine ret_of (.bool (decide ((r81.1.length : Int) = 0))) (by kernel_rfl) ⟨_, ⟨rfl, rfl⟩, hs103⟩
         ·
          obtain ⟨h102p, hm⟩ := iN hm h102
          refine zS 94 h102 ?_
          refine zS 92 h102 ?_
          refine zS 93 h102 ?_
          refine zE 5 (hK88 _ _ ?_)
          refine W.ret ?_
          obtain rfl := some_inj hm
          have hs104 := St.tk0 hs97
          refine ret_of (.bool false) (by kernel_rfl) ⟨_, ⟨rfl, rfl⟩, hs104⟩
        ·
         obtain ⟨h101p, hm⟩ := iN hm h101
         refine zS 90 h101 ?_
         refine zS 88 h101 ?_
         refine zS 89 h101 ?_
         refine zE 9 (hK88 _ _ ?_)
         refine W.ret ?_
         obtain rfl := some_inj hm
         have hs105 := St.tk0 hs97
         refine ret_of (.bool false) (by kernel_rfl) ⟨_, ⟨rfl, rfl⟩, hs105⟩
       ·
        obtain ⟨h100p, hm⟩ := iN hm h100
        refine zS 86 h100 ?_
        refine zS 84 h100 ?_
        refine zS 85 h100 ?_
        refine zE 13 (hK88 _ _ ?_)
        refine W.ret ?_
        obtain rfl := some_inj hm
        have hs106 := St.tk0 hs97
        refine ret_of (.bool false) (by kernel_rfl) ⟨_, ⟨rfl, rfl⟩, hs106⟩
      ·
       obtain ⟨h99p, hm⟩ := iN hm h99
       refine zS 82 h99 ?_
       refine zS 80 h99 ?_
       refine zS 81 h99 ?_
       refine zE 17 (hK88 _ _ ?_)
       refine W.ret ?_
       obtain rfl := some_inj hm
       have hs107 := St.tk0 hs97
       refine ret_of (.bool false) (by kernel_rfl) ⟨_, ⟨rfl, rfl⟩, hs107⟩
     ·
      obtain ⟨h98p, hm⟩ := iN hm h98
      refine zS 78 h98 ?_
      refine zS 76 h98 ?_
      refine zS 77 h98 ?_
      refine zE 21 (hK88 _ _ ?_)
      refine W.ret ?_
      obtain rfl := some_inj hm
      have hs108 := St.tk0 hs97
      refine ret_of (.bool false) (by kernel_rfl) ⟨_, ⟨rfl, rfl⟩, hs108⟩
    ·
     have h92p : ¬ (r50.1 = (ByteArray.mk #[97]) ∧ r50.2.1 = 1) := by simpa using h92
     replace hm := ite_no hm h92p
     refine zS 73 h92 ?_
     refine zS 71 h92 ?_
     refine zS 72 h92 ?_
     refine zE 26 (hK88 _ _ ?_)
     refine W.ret ?_
     obtain rfl := some_inj hm
     have hs109 := St.tk0 hs87
     refine ret_of (.bool false) (by kernel_rfl) ⟨_, ⟨rfl, rfl⟩, hs109⟩
   ·
    obtain ⟨h91p, hm⟩ := iN hm h91
    refine zS 68 h91 ?_
    refine zS 66 h91 ?_
    refine zS 67 h91 ?_
    refine zE 31 (hK88 _ _ ?_)
    refine W.ret ?_
    obtain rfl := some_inj hm
    have hs110 := St.tk0 hs87
    refine ret_of (.bool false) (by kernel_rfl) ⟨_, ⟨rfl, rfl⟩, hs110⟩
  ·
   obtain ⟨h90p, hm⟩ := iN hm h90
   refine zS 64 h90 ?_
   refine zS 62 h90 ?_
   refine zS 63 h90 ?_
   refine zE 35 (hK88 _ _ ?_)
   refine W.ret ?_
   obtain rfl := some_inj hm
   have hs111 := St.tk0 hs87
   refine ret_of (.bool false) (by kernel_rfl) ⟨_, ⟨rfl, rfl⟩, hs111⟩
 ·
  obtain ⟨h89p, hm⟩ := iN hm h89
  refine zS 60 h89 ?_
  refine zS 59 h89 ?_
  refine zE 39 (hK88 _ _ ?_)
  refine W.ret ?_
  obtain rfl := some_inj hm
  have hs112 := St.tk0 hs87
  refine ret_of (.bool false) (by kernel_rfl) ⟨_, ⟨rfl, rfl⟩, hs112⟩

end Go.Proofs.YtmmclabkkigiaaaGreatDoor

namespace Go.Proofs.YtmmclabkkigiaaaGreatDoor
open Go Go.RowKit
set_option maxRecDepth 100000 in
set_option maxHeartbeats 4000000 in
theorem works15_eq : works15_M = some true := by decide +kernel
end Go.Proofs.YtmmclabkkigiaaaGreatDoor

namespace Go.Proofs.YtmmclabkkigiaaaGreatDoor
open Go Go.RowKit
set_option linter.unusedVariables false
set_option linter.unusedSimpArgs false

theorem Ok.got15 {α ρ : Type} {R : ρ → Prop} {x : Option α} {y : α} {f : α → Option ρ} (h : x = Option.some y) (hf : Ok R (f y)) : Ok R (x.bind f) := by
  rw [h]; exact hf
theorem rounds_ok {σ ρ : Type} {R : ρ → Prop} {body : Nat → (σ → Option ρ) → σ → Option ρ} {done : σ → Option ρ} (I : Nat → σ → Prop) (n : Nat)
    (step : ∀ (k : Nat) (c : σ → Option ρ) (s : σ), k < n → I k s → (∀ s', I (k + 1) s' → Ok R (c s')) → Ok R (body k c s)) (fin : ∀ s, I n s → Ok R (done s)) :
    ∀ (t k : Nat) (s : σ), k + t = n → I k s → Ok R (rounds body done t k s)
  | 0, k, s, h, hI => by
    obtain rfl : k = n := by omega
    exact fin s hI
  | t + 1, k, s, h, hI => step k _ s (by omega) hI fun s' hI' => rounds_ok I n step fin t (k + 1) s' (by omega) hI'
theorem toList_iff {a b : ByteArray} : (a.toList == b.toList) = true ↔ a = b := by
  rw [ByteArray.toList_eq, ByteArray.toList_eq, beq_iff_eq]
  constructor
  · intro h
    cases a; cases b
    congr 1
    exact Array.toList_inj.1 h
  · rintro rfl; rfl
def mayB (s : ByteArray) : Bool := decide (1 ≤ s.size ∧ s.size ≤ 40 ∧ badB s = false ∧ s ≠ ByteArray.mk #[46] ∧ s ≠ ByteArray.mk #[46, 46])
theorem emay_eq (s : ByteArray) : emay_M s = some (mayB s) := by
  unfold emay_M mayB
  by_cases h1 : (s.size : Int) ≥ 1
  · rw [if_pos h1]
    by_cases h2 : (s.size : Int) ≤ 40
    · rw [if_pos h2]
      refine need_of (by omega) ?_
      cases hb : badB s with
      | true => rw [if_pos rfl, decide_eq_false (by simp)]
      | false =>
        rw [if_neg (by decide)]
        by_cases h3 : s = ByteArray.mk #[46]
        · rw [if_pos (toList_iff.2 h3), decide_eq_false fun q => q.2.2.2.1 h3]
        · rw [if_neg fun q => h3 (toList_iff.1 q)]
          congr 1
          by_cases h4 : s = ByteArray.mk #[46, 46]
          · rw [decide_eq_false fun q => q.2.2.2.2 h4, toList_iff.2 h4]
            rfl
          · rw [decide_eq_true ⟨by omega, by omega, rfl, h3, h4⟩]
            have : (s.toList == (ByteArray.mk #[46, 46]).toList) = false := by
              cases hq : (s.toList == (ByteArray.mk #[46, 46]).toList) with
              | false => rfl
              | true => exact absurd (toList_iff.1 hq) h4
            rw [this]
            rfl
    · rw [if_neg h2, decide_eq_false fun q => h2 (by omega)]
  · rw [if_neg h1, decide_eq_false fun q => h1 (by omega)]
theorem mayB_iff {s : ByteArray} : mayB s = true ↔ 1 ≤ s.size ∧ s.size ≤ 40 ∧ badB s = false ∧ s ≠ ByteArray.mk #[46] ∧ s ≠ ByteArray.mk #[46, 46] := by
  unfold mayB
  exact decide_eq_true_iff
theorem num_range (s : ByteArray) (j : Nat) : 0 ≤ (strNums s).getD j 0 ∧ (strNums s).getD j 0 ≤ 255 := by
  unfold strNums
  simp only [List.getD, List.getElem?_map]
  cases s.data.toList[j]? with
  | none => simp
  | some b =>
    have := b.toNat_lt
    simp only [Option.map_some, Option.getD_some]
    omega
theorem opack_any (s : ByteArray) (hs : s.size ≤ 1000) : Ok (fun ws : List Int => ws.length = (s.size + 7) / 8) (opack_M s) := by
  unfold opack_M
  refine Ok.need (by omega) ?_
  refine rounds_ok (fun k (q : List Int) => q.length = k) ((s.size + 7) / 8) (fun k c q hk hq ih => ?_) (fun q hq => Ok.some hq) _ _ _ (by omega) rfl
  unfold opack_R27
  refine rounds_ok (fun _ _ => True) (partN s.size k) (fun k2 c2 p hk2 _ ih2 => ?_) (fun p _ => ?_) _ _ _ (by omega) trivial
  · unfold opack_R108
    refine Ok.name fun z hz => Ok.need ?_ (ih2 _ trivial)
    have e : ((strNums s).drop (8 * k)).getD (partN s.size k - 1 - k2) 0 = (strNums s).getD (8 * k + (partN s.size k - 1 - k2)) 0 := by
      simp only [List.getD, List.getElem?_drop]
    have := num_range s (8 * k + (partN s.size k - 1 - k2))
    omega
  · unfold opack_D108 opack_J3
    exact Ok.need (by omega) (ih _ (by rw [List.length_append, hq]; rfl))
theorem sumof_any (ws : List Int) (hs : ws.length ≤ 1000) : Ok (fun r => 0 ≤ r ∧ r ≤ 18446744073709551615) (sumof_M ws) := by
  unfold sumof_M
  refine Ok.need (by omega) ?_
  refine rounds_ok (fun _ (r : Int) => 0 ≤ r ∧ r ≤ 18446744073709551615) ws.length (fun k c r hk hr ih => ?_) (fun r hr => ?_) _ _ _ (by omega) (by omega)
  · unfold sumof_R29 sumadd_M
    exact ih _ (by omega)
  · unfold sumof_D29 sumnow_M
    exact Ok.some hr
theorem ebegin_any (s : ByteArray) : (mayB s = false ∧ ebegin_M s = some 0) ∨ (mayB s = true ∧ ∃ ws r, opack_M s = some ws ∧ sumof_M ws = some r ∧ (0 ≤ r ∧ r ≤ 18446744073709551615) ∧ ebegin_M s = some (r % 12)) := by
  cases hm : mayB s with
  | false =>
    refine .inl ⟨rfl, ?_⟩
    unfold ebegin_M
    refine bind_of (emay_eq s) ?_
    rw [hm]
    rfl
  | true =>
    refine .inr ⟨rfl, ?_⟩
    have h1 := mayB_iff.1 hm
    obtain ⟨ws, e1, e2⟩ := opack_any s (by omega)
    obtain ⟨r, e3, e4⟩ := sumof_any ws (by omega)
    have et : r.tmod 12 = r % 12 := Int.tmod_eq_emod_of_nonneg e4.1
    refine ⟨ws, r, e1, e3, e4, ?_⟩
    unfold ebegin_M
    refine bind_of (emay_eq s) ?_
    rw [hm, if_pos rfl]
    refine bind_of e1 (bind_of e3 ?_)
    rw [et]
    exact need_of (by omega) rfl
theorem works15_stop : Ok (· = true) ((works15_M).bind fun r => some r) := by
  rw [works15_eq]
  exact Ok.some rfl
end Go.Proofs.YtmmclabkkigiaaaGreatDoor

namespace Go.Proofs.YtmmclabkkigiaaaGreatDoor
open Go Go.RowKit
set_option linter.unusedVariables false
set_option linter.unusedSimpArgs false

section
variable {P : Program} {ops : Array Oper} {i : Nat} {s : Fs} {w : World}
theorem bounds_of {isS : Bool} {len cap k m : Nat} {lo hi : Option Value} (hlo : (lo = none ∧ k = 0) ∨ ∃ q, lo = some (.int q (k : Int))) (hhi : (hi = none ∧ m = len) ∨ ∃ q, hi = some (.int q (m : Int))) (h1 : k ≤ m) (h2 : m ≤ cap) :
    (Instr.sliceBounds isS len cap lo hi none).run P w = .ok (k, m, cap) w := by
  have hb : ∀ (q : IntKind) (z y : Nat) (code : BoundsCode), z ≤ y → (Instr.sliceBound (.int q (z : Int)) y code).run P w = .ok z w := by
    intro q z y code hzy
    have : (0 : Int) ≤ (z : Int) ∧ (z : Int) ≤ (y : Int) := ⟨by omega, by omega⟩
    simp only [Instr.sliceBound, asIntOf, Sem.run_bind, Sem.run_pure, Result.andThen_ok, if_pos this, Int.toNat_natCast]
  unfold Instr.sliceBounds
  rcases hlo with ⟨rfl, rfl⟩ | ⟨q, rfl⟩ <;> rcases hhi with ⟨rfl, rfl⟩ | ⟨q2, rfl⟩ <;> simp only [Sem.run_bind, Sem.run_pure, Result.andThen_ok, hb _ _ _ _ h1, hb _ _ _ _ h2]
def valInt : Option Value → Option (Option Int)
  | none => some none
  | some (.int _ k) => some (some k)
  | _ => none
theorem valInt_none {v : Option Value} (h : valInt v = some none) : v = none := by
  cases v with
  | none => rfl
  | some v => cases v <;> simp [valInt] at h
theorem valInt_some {v : Option Value} {z : Int} (h : valInt v = some (some z)) : ∃ q, v = some (.int q z) := by
  cases v with
  | none => simp [valInt] at h
  | some v => cases v <;> simp [valInt] at h; subst h; exact ⟨_, rfl⟩
def strSliceQ (P : Program) (ops : Array Oper) (i : Nat) (s : Fs) : Option (ByteArray × Option Int × Option Int) :=
  match opQ ops i s with
  | some o => match o.op with
    | .slice t x lo hi none => match P.underlying t, evS s x, valInt (lo.map (evS s)), valInt (hi.map (evS s)) with
      | some .string, .string b, some l, some h => some (b, l, h)
      | _, _, _, _ => none
    | _ => none
  | none => none
theorem runs_strSlice {b : ByteArray} {lo hi : Option Int} (k m : Nat) (hlo : lo = some (k : Int) ∨ lo = none ∧ k = 0) (hhi : hi = some (m : Int) ∨ hi = none ∧ m = b.size) (h1 : k ≤ m) (h2 : m ≤ b.size) (hq : strSliceQ P ops i s = some (b, lo, hi)) :
    RunsTo P ops i s w (.string (b.extract k m)) w := by
  unfold strSliceQ at hq
  split at hq
  · rename_i o ho
    split at hq
    · rename_i t x lo' hi' hop
      split at hq
      · rename_i b' l h hu hx hl hh
        simp only [Option.some.injEq, Prod.mk.injEq] at hq
        obtain ⟨rfl, rfl, rfl⟩ := hq
        refine ⟨_, ho, ?_⟩
        have hun := run_underlying (P := P) hu w
        have hlo2 : (lo'.map (evS s) = none ∧ k = 0) ∨ ∃ q, lo'.map (evS s) = some (.int q (k : Int)) := by
          rcases hlo with rfl | ⟨rfl, hk⟩
          · exact .inr (valInt_some hl)
          · exact .inl ⟨valInt_none hl, hk⟩
        have hhi2 : (hi'.map (evS s) = none ∧ m = b'.size) ∨ ∃ q, hi'.map (evS s) = some (.int q (m : Int)) := by
          rcases hhi with rfl | ⟨rfl, hk⟩
          · exact .inr (valInt_some hh)
          · exact .inl ⟨valInt_none hh, hk⟩
        have hb := bounds_of (P := P) (w := w) (isS := false) hlo2 hhi2 h1 h2
        have hxx : (Instr.sliceAt t (evS s x) (lo'.map (evS s)) (hi'.map (evS s)) none).run P w = .ok (.string (b'.extract k m)) w := by
          unfold Instr.sliceAt
          simp only [Sem.run_bind, hun, Result.andThen_ok, hx]
          unfold Instr.slice
          simp only [Sem.run_bind, hun, Result.andThen_ok, hb, Sem.run_pure, Option.isSome_none, Bool.false_eq_true, if_false]
        simp only [execOp, hop, Option.map_none, Sem.run_bind, hxx, Result.andThen_ok, Sem.run_pure]
      · cases hq
    · cases hq
  · cases hq
def strAddQ (P : Program) (ops : Array Oper) (i : Nat) (s : Fs) : Option (ByteArray × ByteArray) :=
  match opQ ops i s with
  | some o => match o.op with
    | .binOp .add t x y u => match evS s x, evS s y with
      | .string a, .string b => some (a, b)
      | _, _ => none
    | _ => none
  | none => none
theorem runs_strAdd {a b : ByteArray} (h : a.size + b.size ≤ 9223372036854775807) (hq : strAddQ P ops i s = some (a, b)) : RunsTo P ops i s w (.string (a ++ b)) w := by
  unfold strAddQ at hq
  split at hq
  · rename_i o ho
    split at hq
    · rename_i t x' y' yt hop
      refine ⟨o, ho, ?_⟩
      split at hq
      · rename_i a1 b1 hx hy
        cases hq
        have hg : (eqGuard .add t x' y' (.string a) (.string b)).run P w = .ok () w := by
          unfold eqGuard
          rfl
        simp only [execOp, hop, hx, hy, Sem.run_bind, hg, Result.andThen_ok, binOp, run_string_add_sum w a b h, Sem.run_pure]
      · cases hq
    · cases hq
  · cases hq
end
end Go.Proofs.YtmmclabkkigiaaaGreatDoor

namespace Go.Proofs.YtmmclabkkigiaaaGreatDoor
open Go Go.RowKit
set_option linter.unusedSimpArgs false
set_option linter.unusedVariables false



structure TGeo where
  c0 : Int
  c1 : Int
  c2 : Int

def kGeo : Kind TGeo := ⟨31, 3, fun x => [.int .i64 x.c0, .int .i64 x.c1, .int .i64 x.c2], by decide, fun _ => rfl, fun _ => rfl⟩
def good_Geo (x : TGeo) : Prop := (-9223372036854775808 ≤ x.c0 ∧ x.c0 ≤ 9223372036854775807) ∧ (-9223372036854775808 ≤ x.c1 ∧ x.c1 ≤ 9223372036854775807) ∧ (-9223372036854775808 ≤ x.c2 ∧ x.c2 ≤ 9223372036854775807)

end Go.Proofs.YtmmclabkkigiaaaGreatDoor

namespace Go.Proofs.YtmmclabkkigiaaaGreatDoor
open Go.ChangeShapes Go.WideShapes Go.ChangeAt Go.RowKit Go.Deep

inductive Leaf where
  | int (k : IntKind)
  | bool

def LeafOk : Leaf → Value → Prop
  | .int k, v => ∃ z, v = .int k z ∧ (Lit.int k z).wf = true
  | .bool, v => ∃ b, v = .bool b

def LeavesOk : List Leaf → List Value → Prop
  | [], [] => True
  | k :: ks, v :: vs => LeafOk k v ∧ LeavesOk ks vs
  | _, _ => False

theorem LeavesOk.append : ∀ {ks ks' : List Leaf} {vs vs' : List Value}, LeavesOk ks vs → LeavesOk ks' vs' → LeavesOk (ks ++ ks') (vs ++ vs')
  | [], _, [], _, _, h => h
  | _ :: _, _, _ :: _, _, h, h' => ⟨h.1, LeavesOk.append h.2 h'⟩

def leavesF (P : Program) (lv : TypeId → Option (List Leaf)) : Nat → List Field → Option (List Leaf)
  | _, [] => some []
  | off, f :: fs => match lv f.type with
    | some l => if f.offset = off ∧ P.cellsOf f.type = l.length then (leavesF P lv (off + l.length) fs).map (l ++ ·) else none
    | none => none

def leaves (P : Program) : Nat → TypeId → Option (List Leaf)
  | 0, _ => none
  | m + 1, t => match P.underlying t with
    | some (.int k) => some [.int k]
    | some .bool => some [.bool]
    | some (.struct fs) => match leavesF P (leaves P m) 0 fs.toList with
      | some ks => if P.cellsOf t = ks.length then some ks else none
      | none => none
    | some (.array n e) => match leaves P m e with
      | some l => if P.cellsOf e = l.length ∧ P.cellsOf t = n * l.length then some ((List.replicate n l).flatten) else none
      | none => none
    | _ => none

section
variable {H : Type} {enc : TypeId × Value → H} {P : Program} {w : World} {base : Nat} {sp : Nat → Bool} {held : Bool}

theorem leavesF_ok {lv : TypeId → Option (List Leaf)} (hlv : ∀ (t : TypeId) (ks : List Leaf) (n : Nat) (cs : List Value) (y : DataW H × List MemPlace), lv t = some ks → DataW.trod enc P w base sp held n t cs = some y → LeavesOk ks cs) {cs : List Value} :
    ∀ (fs : List Field) (off : Nat) (ks : List Leaf), leavesF P lv off fs = some ks → (∀ (i : Nat) (f : Field), fs[i]? = some f → ∃ n y, DataW.trod enc P w base sp held n f.type ((cs.drop f.offset).take (P.cellsOf f.type)) = some y) →
      LeavesOk ks ((cs.drop off).take ks.length)
  | [], off, ks, h, _ => by
    simp only [leavesF, Option.some.injEq] at h
    subst h
    simp [LeavesOk]
  | f :: fs, off, ks, h, ht => by
    unfold leavesF at h
    split at h
    · rename_i l hl
      split at h
      · rename_i hc
        simp only [Option.map_eq_some_iff] at h
        obtain ⟨ks', hk', rfl⟩ := h
        obtain ⟨n, y, hy⟩ := ht 0 f rfl
        rw [hc.1, hc.2] at hy
        have h1 := hlv _ _ _ _ _ hl hy
        have h2 := leavesF_ok hlv fs (off + l.length) ks' hk' (fun i g hg => ht (i + 1) g (by simpa using hg))
        have e : (cs.drop off).take (l ++ ks').length = (cs.drop off).take l.length ++ (cs.drop (off + l.length)).take ks'.length := by
          rw [List.length_append, List.take_add, List.drop_drop]
        rw [e]
        exact h1.append h2
      · cases h
    · cases h

theorem leavesA_ok {l : List Leaf} {cs : List Value} : ∀ n : Nat, (∀ i, i < n → LeavesOk l ((cs.drop (i * l.length)).take l.length)) → LeavesOk ((List.replicate n l).flatten) (cs.take (n * l.length))
  | 0, _ => by simp [LeavesOk]
  | n + 1, h => by
    have h1 := leavesA_ok n (fun i hi => h i (by omega))
    have h2 := h n (by omega)
    have e1 : (List.replicate (n + 1) l).flatten = (List.replicate n l).flatten ++ l := by
      rw [List.replicate_succ', List.flatten_append]
      simp
    have e2 : cs.take ((n + 1) * l.length) = cs.take (n * l.length) ++ (cs.drop (n * l.length)).take l.length := by
      rw [Nat.add_mul, Nat.one_mul, List.take_add]
    rw [e1, e2]
    exact h1.append h2

theorem leaves_ok : ∀ (m : Nat) (t : TypeId) (ks : List Leaf) (n : Nat) (cs : List Value) (y : DataW H × List MemPlace), leaves P m t = some ks → DataW.trod enc P w base sp held n t cs = some y → LeavesOk ks cs
  | 0, t, ks, n, cs, y, h, _ => by simp [leaves] at h
  | m + 1, t, ks, n, cs, y, h, hy => by
    unfold leaves at h
    split at h
    · rename_i k hu
      cases h
      obtain ⟨z, rfl, _, hz⟩ := DataW.trod_int hu hy
      exact ⟨⟨z, rfl, hz⟩, trivial⟩
    · rename_i hu
      cases h
      cases n with
      | zero => simp [DataW.trod] at hy
      | succ n =>
        unfold DataW.trod at hy
        rw [hu] at hy
        split at hy <;> simp_all [LeavesOk, LeafOk]
    · rename_i fs hu
      split at h
      · rename_i ks' hks
        split at h
        · rename_i hc
          cases h
          obtain ⟨xs, n', rfl, _, hlen, hxl, hf⟩ := DataW.trod_struct hu hy
          have h1 := leavesF_ok (cs := cs) (leaves_ok m) fs.toList 0 _ hks (fun i f hi => by
            have hi' : fs[i]? = some f := by simpa using hi
            have := hf i f hi'
            have hil : i < xs.length := by rw [hxl]; exact (Array.getElem?_eq_some_iff.1 hi').1
            rw [List.getElem?_eq_getElem hil] at this
            exact ⟨_, _, this⟩)
          simpa [← hc, ← hlen] using h1
        · cases h
      · cases h
    · rename_i k e hu
      split at h
      · rename_i l hl
        split at h
        · rename_i hc
          cases h
          obtain ⟨xs, n', rfl, _, hlen, hxl, hf⟩ := DataW.trod_array hu hy
          have h1 := leavesA_ok (l := l) (cs := cs) k (fun i hi => by
            have := hf i hi
            have hil : i < xs.length := by rw [hxl]; exact hi
            rw [List.getElem?_eq_getElem hil, hc.1] at this
            exact leaves_ok m _ _ _ _ _ hl this)
          simpa [← hc.2, ← hlen] using h1
        · cases h
      · cases h
    · cases h

theorem open_agg {α : Type} (K : Kind α) (good : α → Prop) {fs : Array Field} {ks : List Leaf} (m : Nat) (hs : P.underlying K.e = some (.struct fs)) (hl : leaves P m K.e = some ks) (hread : ∀ cs, LeavesOk ks cs → ∃ x, cs = K.elem x ∧ good x)
    {r : Reach} {b0 : Nat} {v : Value} {d : DataW H} {ps : List MemPlace} (hval : Value.okWide P w r b0 K.e v) (h : DataW.Trod enc P w base sp held K.e v d ps) : ∃ x, v = .agg (K.elem x).toArray ∧ good x := by
  obtain ⟨cs, rfl, _⟩ := okWide_struct hs hval
  obtain ⟨fuel, h⟩ := h
  have h' : DataW.trod enc P w base sp held fuel K.e cs.toList = some (d, ps) := h
  obtain ⟨x, hx, hg⟩ := hread _ (leaves_ok m _ _ _ _ _ hl h')
  exact ⟨x, by rw [← hx], hg⟩
end
theorem leaves_cons {k : Leaf} {ks : List Leaf} : ∀ {cs : List Value}, LeavesOk (k :: ks) cs → ∃ v vs, cs = v :: vs ∧ LeafOk k v ∧ LeavesOk ks vs
  | v :: vs, h => ⟨v, vs, rfl, h.1, h.2⟩
  | [], h => h.elim
theorem leaves_nil : ∀ {cs : List Value}, LeavesOk [] cs → cs = []
  | [], _ => rfl
  | _ :: _, h => h.elim
end Go.Proofs.YtmmclabkkigiaaaGreatDoor

namespace Go.Proofs.YtmmclabkkigiaaaGreatDoor
namespace WithText
open Go.ChangeShapes Go.WideShapes Go.ChangeAt Go.RowKit Go.Deep

inductive Leaf where
  | int (k : IntKind)
  | bool
  | string

def LeafOk : Leaf → Value → Prop
  | .int k, v => ∃ z, v = .int k z ∧ (Lit.int k z).wf = true
  | .bool, v => ∃ b, v = .bool b
  | .string, v => ∃ b, v = .string b ∧ b.size ≤ maxLen

def LeavesOk : List Leaf → List Value → Prop
  | [], [] => True
  | k :: ks, v :: vs => LeafOk k v ∧ LeavesOk ks vs
  | _, _ => False

theorem LeavesOk.append : ∀ {ks ks' : List Leaf} {vs vs' : List Value}, LeavesOk ks vs → LeavesOk ks' vs' → LeavesOk (ks ++ ks') (vs ++ vs')
  | [], _, [], _, _, h => h
  | _ :: _, _, _ :: _, _, h, h' => ⟨h.1, LeavesOk.append h.2 h'⟩

def leavesF (P : Program) (lv : TypeId → Option (List Leaf)) : Nat → List Field → Option (List Leaf)
  | _, [] => some []
  | off, f :: fs => match lv f.type with
    | some l => if f.offset = off ∧ P.cellsOf f.type = l.length then (leavesF P lv (off + l.length) fs).map (l ++ ·) else none
    | none => none

def leaves (P : Program) : Nat → TypeId → Option (List Leaf)
  | 0, _ => none
  | m + 1, t => match P.underlying t with
    | some (.int k) => some [.int k]
    | some .bool => some [.bool]
    | some .string => some [.string]
    | some (.struct fs) => match leavesF P (leaves P m) 0 fs.toList with
      | some ks => if P.cellsOf t = ks.length then some ks else none
      | none => none
    | some (.array n e) => match leaves P m e with
      | some l => if P.cellsOf e = l.length ∧ P.cellsOf t = n * l.length then some ((List.replicate n l).flatten) else none
      | none => none
    | _ => none

section
variable {H : Type} {enc : TypeId × Value → H} {P : Program} {w : World} {base : Nat} {sp : Nat → Bool} {held : Bool}

theorem leavesF_ok {lv : TypeId → Option (List Leaf)} (hlv : ∀ (t : TypeId) (ks : List Leaf) (n : Nat) (cs : List Value) (y : DataW H × List MemPlace), lv t = some ks → DataW.trod enc P w base sp held n t cs = some y → LeavesOk ks cs) {cs : List Value} :
    ∀ (fs : List Field) (off : Nat) (ks : List Leaf), leavesF P lv off fs = some ks → (∀ (i : Nat) (f : Field), fs[i]? = some f → ∃ n y, DataW.trod enc P w base sp held n f.type ((cs.drop f.offset).take (P.cellsOf f.type)) = some y) →
      LeavesOk ks ((cs.drop off).take ks.length)
  | [], off, ks, h, _ => by
    simp only [leavesF, Option.some.injEq] at h
    subst h
    simp [LeavesOk]
  | f :: fs, off, ks, h, ht => by
    unfold leavesF at h
    split at h
    · rename_i l hl
      split at h
      · rename_i hc
        simp only [Option.map_eq_some_iff] at h
        obtain ⟨ks', hk', rfl⟩ := h
        obtain ⟨n, y, hy⟩ := ht 0 f rfl
        rw [hc.1, hc.2] at hy
        have h1 := hlv _ _ _ _ _ hl hy
        have h2 := leavesF_ok hlv fs (off + l.length) ks' hk' (fun i g hg => ht (i + 1) g (by simpa using hg))
        have e : (cs.drop off).take (l ++ ks').length = (cs.drop off).take l.length ++ (cs.drop (off + l.length)).take ks'.length := by
          rw [List.length_append, List.take_add, List.drop_drop]
        rw [e]
        exact h1.append h2
      · cases h
    · cases h

theorem leavesA_ok {l : List Leaf} {cs : List Value} : ∀ n : Nat, (∀ i, i < n → LeavesOk l ((cs.drop (i * l.length)).take l.length)) → LeavesOk ((List.replicate n l).flatten) (cs.take (n * l.length))
  | 0, _ => by simp [LeavesOk]
  | n + 1, h => by
    have h1 := leavesA_ok n (fun i hi => h i (by omega))
    have h2 := h n (by omega)
    have e1 : (List.replicate (n + 1) l).flatten = (List.replicate n l).flatten ++ l := by
      rw [List.replicate_succ', List.flatten_append]
      simp
    have e2 : cs.take ((n + 1) * l.length) = cs.take (n * l.length) ++ (cs.drop (n * l.length)).take l.length := by
      rw [Nat.add_mul, Nat.one_mul, List.take_add]
    rw [e1, e2]
    exact h1.append h2

theorem leaves_ok : ∀ (m : Nat) (t : TypeId) (ks : List Leaf) (n : Nat) (cs : List Value) (y : DataW H × List MemPlace), leaves P m t = some ks → DataW.trod enc P w base sp held n t cs = some y → LeavesOk ks cs
  | 0, t, ks, n, cs, y, h, _ => by simp [leaves] at h
  | m + 1, t, ks, n, cs, y, h, hy => by
    unfold leaves at h
    split at h
    · rename_i k hu
      cases h
      obtain ⟨z, rfl, _, hz⟩ := DataW.trod_int hu hy
      exact ⟨⟨z, rfl, hz⟩, trivial⟩
    · rename_i hu
      cases h
      cases n with
      | zero => simp [DataW.trod] at hy
      | succ n =>
        unfold DataW.trod at hy
        rw [hu] at hy
        split at hy <;> simp_all [LeavesOk, LeafOk]
    · rename_i hu
      cases h
      obtain ⟨b, rfl, _, hz⟩ := DataW.trod_string hu hy
      exact ⟨⟨b, rfl, hz⟩, trivial⟩
    · rename_i fs hu
      split at h
      · rename_i ks' hks
        split at h
        · rename_i hc
          cases h
          obtain ⟨xs, n', rfl, _, hlen, hxl, hf⟩ := DataW.trod_struct hu hy
          have h1 := leavesF_ok (cs := cs) (leaves_ok m) fs.toList 0 _ hks (fun i f hi => by
            have hi' : fs[i]? = some f := by simpa using hi
            have := hf i f hi'
            have hil : i < xs.length := by rw [hxl]; exact (Array.getElem?_eq_some_iff.1 hi').1
            rw [List.getElem?_eq_getElem hil] at this
            exact ⟨_, _, this⟩)
          simpa [← hc, ← hlen] using h1
        · cases h
      · cases h
    · rename_i k e hu
      split at h
      · rename_i l hl
        split at h
        · rename_i hc
          cases h
          obtain ⟨xs, n', rfl, _, hlen, hxl, hf⟩ := DataW.trod_array hu hy
          have h1 := leavesA_ok (l := l) (cs := cs) k (fun i hi => by
            have := hf i hi
            have hil : i < xs.length := by rw [hxl]; exact hi
            rw [List.getElem?_eq_getElem hil, hc.1] at this
            exact leaves_ok m _ _ _ _ _ hl this)
          simpa [← hc.2, ← hlen] using h1
        · cases h
      · cases h
    · cases h

theorem open_agg {α : Type} (K : Kind α) (good : α → Prop) {fs : Array Field} {ks : List Leaf} (m : Nat) (hs : P.underlying K.e = some (.struct fs)) (hl : leaves P m K.e = some ks) (hread : ∀ cs, LeavesOk ks cs → ∃ x, cs = K.elem x ∧ good x)
    {r : Reach} {b0 : Nat} {v : Value} {d : DataW H} {ps : List MemPlace} (hval : Value.okWide P w r b0 K.e v) (h : DataW.Trod enc P w base sp held K.e v d ps) : ∃ x, v = .agg (K.elem x).toArray ∧ good x := by
  obtain ⟨cs, rfl, _⟩ := okWide_struct hs hval
  obtain ⟨fuel, h⟩ := h
  have h' : DataW.trod enc P w base sp held fuel K.e cs.toList = some (d, ps) := h
  obtain ⟨x, hx, hg⟩ := hread _ (leaves_ok m _ _ _ _ _ hl h')
  exact ⟨x, by rw [← hx], hg⟩
end
theorem leaves_cons {k : Leaf} {ks : List Leaf} : ∀ {cs : List Value}, LeavesOk (k :: ks) cs → ∃ v vs, cs = v :: vs ∧ LeafOk k v ∧ LeavesOk ks vs
  | v :: vs, h => ⟨v, vs, rfl, h.1, h.2⟩
  | [], h => h.elim
theorem leaves_nil : ∀ {cs : List Value}, LeavesOk [] cs → cs = []
  | [], _ => rfl
  | _ :: _, h => h.elim
end WithText
end Go.Proofs.YtmmclabkkigiaaaGreatDoor

namespace Go.Proofs.YtmmclabkkigiaaaGreatDoor
open Go.ChangeShapes Go.WideShapes Go.ChangeAt Go.RowKit Go.Deep
set_option linter.unusedVariables false

theorem leaf_En (cs0 : List Value) (e0 : WithText.LeavesOk [.string, .int .i64] cs0) : ∃ x, cs0 = kEn.elem x ∧ good_En x := by
  obtain ⟨_, cs1, rfl, ⟨z0, rfl, _⟩, e1⟩ := WithText.leaves_cons e0
  obtain ⟨_, cs2, rfl, ⟨z1, rfl, b1⟩, e2⟩ := WithText.leaves_cons e1
  obtain rfl := WithText.leaves_nil e2
  simp [Lit.wf, IntKind.min, IntKind.max, IntKind.signed, IntKind.bits] at b1
  refine ⟨⟨z0, z1⟩, rfl, ?_⟩
  simp only [good_En]
  omega
theorem leaf_Geo (cs0 : List Value) (e0 : LeavesOk [.int .i64, .int .i64, .int .i64] cs0) : ∃ x, cs0 = kGeo.elem x ∧ good_Geo x := by
  obtain ⟨_, cs1, rfl, ⟨z0, rfl, b0⟩, e1⟩ := leaves_cons e0
  obtain ⟨_, cs2, rfl, ⟨z1, rfl, b1⟩, e2⟩ := leaves_cons e1
  obtain ⟨_, cs3, rfl, ⟨z2, rfl, b2⟩, e3⟩ := leaves_cons e2
  obtain rfl := leaves_nil e3
  simp [Lit.wf, IntKind.min, IntKind.max, IntKind.signed, IntKind.bits] at b0 b1 b2
  refine ⟨⟨z0, z1, z2⟩, rfl, ?_⟩
  simp only [good_Geo]
  omega
end Go.Proofs.YtmmclabkkigiaaaGreatDoor

namespace Go.Proofs.YtmmclabkkigiaaaGreatDoor
open Go
set_option maxRecDepth 100000 in
theorem seat_make : (Tryz.prog.make == some Rows.entryNamesRow.make) = true := by kernel_rfl
end Go.Proofs.YtmmclabkkigiaaaGreatDoor

namespace Go.Proofs.YtmmclabkkigiaaaGreatDoor
open Go
set_option maxRecDepth 100000 in
theorem seat_lifted : (Rows.entryNamesRow.lifted == Tryz.prog.liftsFinal) = true := by kernel_rfl
end Go.Proofs.YtmmclabkkigiaaaGreatDoor

namespace Go.Proofs.YtmmclabkkigiaaaGreatDoor
open Go
set_option maxRecDepth 100000 in
theorem seat_enter : Tryz.prog.mayEnter = true := by kernel_rfl
end Go.Proofs.YtmmclabkkigiaaaGreatDoor

namespace Go.Proofs.YtmmclabkkigiaaaGreatDoor
open Go Go.RowKit
set_option linter.unusedSimpArgs false
set_option linter.unusedVariables false

set_option maxRecDepth 100000 in
theorem seat_main : Tryz.prog.mainIs = some (true, "056a9ebd9aeee0e6afff036bdceb98945e1f9728f64ef0347502c2b89040cba7".toList) := by kernel_rfl
end Go.Proofs.YtmmclabkkigiaaaGreatDoor

namespace Go.Proofs.YtmmclabkkigiaaaGreatDoor
open Go Go.RowKit
set_option linter.unusedSimpArgs false
set_option linter.unusedVariables false

set_option maxRecDepth 100000 in
theorem seat_looks : false = Tryz.prog.looks [] := by kernel_rfl
end Go.Proofs.YtmmclabkkigiaaaGreatDoor
