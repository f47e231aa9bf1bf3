/- Texts, one behind the other: ALeNi, PLeNi. -/
import Derived.Test.YtmmclabkkigiaaaGreatDoorQEN6
set_option linter.unusedVariables false
set_option linter.unusedSimpArgs false
set_option linter.unusedVariables false
set_option maxRecDepth 20000
set_option maxHeartbeats 4000000
namespace Go.Proofs.YtmmclabkkigiaaaGreatDoor
open Go Go.RowKit
set_option linter.unusedSimpArgs false
set_option linter.unusedVariables false

def entrynil_M  : Option (Bool) :=
 need ((0 : Int) ≤ 1 ∧ (1 : Int) ≤ 255) <|
need ((0 : Int) ≤ 9 ∧ (9 : Int) ≤ 255) <|
(some (placeOf 8 1 (2 + 1 % 20) (2 + 9 % 60) 2)).bind fun r41 =>
need (0 ≤ r41 ∧ r41 < (((fmtW 1 (2 + 1 % 20) (2 + 9 % 60)).length) : Int)) <|
need ((fmtW 1 (2 + 1 % 20) (2 + 9 % 60)).length = ((fmtW 1 (2 + 1 % 20) (2 + 9 % 60)).set r41.toNat 1).length) <|
need (((fmtW 1 (2 + 1 % 20) (2 + 9 % 60)).set r41.toNat 1).length ≤ 17592186044415) <|
(eFind_M ((fmtW 1 (2 + 1 % 20) (2 + 9 % 60)).set r41.toNat 1) ([]) 1 (2 + 1 % 20) (2 + 9 % 60) 2 (ByteArray.mk #[97])).bind fun r63 =>
(eList_M ((fmtW 1 (2 + 1 % 20) (2 + 9 % 60)).set r41.toNat 1) ([]) 1 (2 + 1 % 20) (2 + 9 % 60) 0).bind fun r75 =>
(eAdd_M ((fmtW 1 (2 + 1 % 20) (2 + 9 % 60)).set r41.toNat 1) ([]) 1 (2 + 1 % 20) (2 + 9 % 60) 1 (ByteArray.mk #[97]) 3).bind fun r84 =>
if ByteArray.empty = ByteArray.empty then (if r63.2.2.2 = 10 then (if r75.2 = 1 then (if r84.1 = 1 then ((works15_M).bind fun r104 =>
some r104) else (some false)) else (some false)) else (some false)) else (some false)

theorem entrynil_walk {gw : Int} {gi : Int} {gb : Int} {n_ : Int} {xn_ : ByteArray} {xi_ : Int}   (B : Nat) (w : World) (hB : w.heap.size = B) (hT : CellsAt (some ⟨1, 0, none⟩) tab8 w) (hm : entrynil_M = some true) : Spec Tryz.prog 4 #[(.agg #[(.int .i64 gw), (.int .i64 gi), (.int .i64 gb)]), (.int .i64 n_), (.agg #[(.string xn_), (.int .i64 xi_)])] B w [] (fun v H' => v = .bool true ∧ H' = []) := by
 refine spec_Q Tryz.func4 rfl fun hs => ?_
 unfold entrynil_M at hm
 have hG : 1 < B := by rw [← hB]; exact lt_of_cells hT (v := .int .u8 0) (by kernel_rfl)
 refine W.sr fun K1 hK1 => ?_
 refine zN [(.int .i64 gw), (.int .i64 gi), (.int .i64 gb)] 31 hs fun b4 w2 hs3 => ?_
 refine zN [(.string xn_), (.int .i64 xi_)] 33 hs3 fun b7 w5 hs6 => ?_
 refine zE 1 (hK1 _ _ ?_)
 refine W.sr fun K8 hK8 => ?_
 refine ops_R (runs_loadAgg (ad := ⟨b4, 0, none⟩) (cs := [(.int .i64 gw), (.int .i64 gi), (.int .i64 gb)]) (by kernel_rfl) (cells_sub (hs6.heapAt 1 rfl) rfl)) ?_
 refine zR 2 ?_
 refine zL ⟨b7, 0, none⟩ (.string xn_) (hs6.cellAt 0 rfl rfl) ?_
 refine zC00 hs6 (eFind_nil (gw := gw) (gi := gi) (gb := gb) (n_ := n_) (tx_ := xn_) B _) fun w9 hs11 => ?_
 refine zR 4 ?_
 refine zN [(.string ByteArray.empty), (.int .i64 0)] 33 hs11 fun b14 w12 hs13 => ?_
 refine ops_store (off := 0) (cs := [(.string ByteArray.empty), (.int .i64 0)]) (vs := [(.string ByteArray.empty), (.int .i64 0)]) hs13 (by kernel_rfl) (by simp) rfl (fun w15 hs16 => ?_)
 have hs17 : St B w [] w15 [blk b14 (.cells [(.string ByteArray.empty), (.int .i64 0)].toArray 33 (0, 0)), blk b7 (.cells [(.string xn_), (.int .i64 xi_)].toArray 33 (0, 0)), blk b4 (.cells [(.int .i64 gw), (.int .i64 gi), (.int .i64 gb)].toArray 31 (0, 0))] := hs16
 refine zE 2 (hK8 _ _ ?_)
 refine W.sr fun K18 hK18 => ?_
 refine ops_R (runs_loadAgg (ad := ⟨b4, 0, none⟩) (cs := [(.int .i64 gw), (.int .i64 gi), (.int .i64 gb)]) (by kernel_rfl) (cells_sub (hs17.heapAt 2 rfl) rfl)) ?_
 refine zR 1 ?_
 refine zC00 hs17 (eList_nil (gw := gw) (gi := gi) (gb := gb) (n_ := n_) B _) fun w19 hs21 => ?_
 refine zE 5 (hK18 _ _ ?_)
 refine W.sr fun K22 hK22 => ?_
 obtain ⟨h23, hm⟩ := need_some hm
 obtain ⟨h24, hm⟩ := need_some hm
 refine zC00 hs21 (small_spec (x_ := 1) (y_ := 9) (hx := h23) (hy := h24) B _) fun w25 hs27 => ?_
 refine zN [(.int .i64 0), (.int .i64 0), (.int .i64 0)] 31 hs27 fun b30 w28 hs29 => ?_
 refine ops_store (off := 0) (cs := [(.int .i64 0), (.int .i64 0), (.int .i64 0)]) (vs := [(.int .i64 1), (.int .i64 (2 + 1 % 20)), (.int .i64 (2 + 9 % 60))]) hs29 (by kernel_rfl) (by simp) rfl (fun w31 hs32 => ?_)
 have hs33 : St B w [] w31 [blk b30 (.cells [(.int .i64 1), (.int .i64 (2 + 1 % 20)), (.int .i64 (2 + 9 % 60))].toArray 31 (0, 0)), blk b14 (.cells [(.string ByteArray.empty), (.int .i64 0)].toArray 33 (0, 0)), blk b7 (.cells [(.string xn_), (.int .i64 xi_)].toArray 33 (0, 0)), blk b4 (.cells [(.int .i64 gw), (.int .i64 gi), (.int .i64 gb)].toArray 31 (0, 0))] := hs32
 refine zD (hK22 _ _ ?_)
 refine W.sr fun K34 hK34 => ?_
 refine ops_R (runs_loadAgg (ad := ⟨b30, 0, none⟩) (cs := [(.int .i64 1), (.int .i64 (2 + 1 % 20)), (.int .i64 (2 + 9 % 60))]) (by kernel_rfl) (cells_sub (hs33.heapAt 0 rfl) rfl)) ?_
 refine ops_call0 hs33 (by kernel_rfl) (format_spec (gw := 1) (gi := (2 + 1 % 20)) (gb := (2 + 9 % 60)) B _) ?_
 rintro _ _ w37 ⟨a35, c36, rfl, rfl⟩ hs38
 have hs39 := St.ap1 hs38
 refine zE 1 (hK34 _ _ ?_)
 refine W.sr fun K40 hK40 => ?_
 refine zR 1 ?_
 refine ops_R (runs_loadAgg (ad := ⟨b30, 0, none⟩) (cs := [(.int .i64 1), (.int .i64 (2 + 1 % 20)), (.int .i64 (2 + 9 % 60))]) (by kernel_rfl) (cells_sub (hs39.heapAt 1 rfl) rfl)) ?_
 obtain ⟨r41, h42, hm⟩ := bind_some hm
 replace h42 := some_inj h42
 refine ops_call0 hs39 (by kernel_rfl) (rinodeat_spec (gw := 1) (gi := (2 + 1 % 20)) (gb := (2 + 9 % 60)) (n_ := 2) B _) ?_
 rintro _ _ w43 ⟨hv45, hH46⟩ hs44
 rw [h42] at hv45
 try rw [h42] at hH46
 subst hv45 hH46
 have hs47 := St.ap0 hs44
 obtain ⟨h49, hm⟩ := need_some hm
 have hk48 := lt_toNat h49
 refine ops_R (runs_index (a := a35) (n := (fmtW 1 (2 + 1 % 20) (2 + 9 % 60)).length) (z := r41) (size := 1) r41.toNat (nat_of h49.1) hk48 (kU64.addr (St.kcells kU64 hs47 0 rfl) hk48) (by kernel_rfl)) ?_
 refine ops_storeK kU64 (j := 0) (vs := [(.int .u64 1)]) 0 1 hs47 hk48 (Nat.le_of_ble_eq_true rfl) (by simp) rfl rfl (by kernel_rfl) (fun w50 hs51 => ?_)
 refine zD (hK40 _ _ ?_)
 refine W.sr fun K53 hK53 => ?_
 refine zR 1 ?_
 obtain ⟨h54, hm⟩ := need_some hm
 refine ops_set 43 (v := (.slice a35 (((fmtW 1 (2 + 1 % 20) (2 + 9 % 60)).set r41.toNat 1).length) c36)) (Eq.trans (by kernel_rfl) (congrArg (fun n_ => Value.slice a35 n_ c36) h54)) ?_
 obtain ⟨h56, hm⟩ := need_some hm
 refine ops_call0 hs51 (by kernel_rfl) (new_spec (hc := (St.kcells kU64 hs51 0 rfl)) (hn := (St.capnil kU64 hs51 0 rfl)) (hsz := h56) B _) ?_
 rintro _ _ w57 ⟨b55, rfl, rfl⟩ hs58
 have hs59 := St.ap1 hs58
 refine zE 1 (hK53 _ _ ?_)
 refine W.seq fun K60 hK60 => ?_
 refine W.sr fun K61 hK61 => ?_
 refine zE 2 (hK61 _ _ ?_)
 refine W.cond_false false (by kernel_rfl) rfl ?_
 refine W.skip ?_
 refine hK60 _ _ ?_
 refine W.sr fun K62 hK62 => ?_
 refine zR 1 ?_
 refine ops_R (runs_loadAgg (ad := ⟨b30, 0, none⟩) (cs := [(.int .i64 1), (.int .i64 (2 + 1 % 20)), (.int .i64 (2 + 9 % 60))]) (by kernel_rfl) (cells_sub (hs59.heapAt 2 rfl) rfl)) ?_
 obtain ⟨r63, h64, hm⟩ := bind_some hm
 refine zC11 hs59 (eFind_walk (vb := b55) (gw := 1) (gi := (2 + 1 % 20)) (gb := (2 + 9 % 60)) (n_ := 2) (tx_ := (ByteArray.mk #[97])) (img := ((fmtW 1 (2 + 1 % 20) (2 + 9 % 60)).set r41.toNat 1)) (l := []) (hm := h64) B _) fun w65 hs67 => ?_
 refine zR 4 ?_
 refine zN [(.string ByteArray.empty), (.int .i64 0)] 33 hs67 fun b70 w68 hs69 => ?_
 refine ops_store (off := 0) (cs := [(.string ByteArray.empty), (.int .i64 0)]) (vs := [(.string r63.1), (.int .i64 r63.2.1)]) hs69 (by kernel_rfl) (by simp) rfl (fun w71 hs72 => ?_)
 have hs73 : St B w [] w71 [blk b70 (.cells [(.string r63.1), (.int .i64 r63.2.1)].toArray 33 (0, 0)), viewA (ptr b55) ((fmtW 1 (2 + 1 % 20) (2 + 9 % 60)).set r41.toNat 1) ([]), kU64.row a35 c36 ((fmtW 1 (2 + 1 % 20) (2 + 9 % 60)).set r41.toNat 1), blk b30 (.cells [(.int .i64 1), (.int .i64 (2 + 1 % 20)), (.int .i64 (2 + 9 % 60))].toArray 31 (0, 0)), blk b14 (.cells [(.string ByteArray.empty), (.int .i64 0)].toArray 33 (0, 0)), blk b7 (.cells [(.string xn_), (.int .i64 xi_)].toArray 33 (0, 0)), blk b4 (.cells [(.int .i64 gw), (.int .i64 gi), (.int .i64 gb)].toArray 31 (0, 0))] := hs72
 refine zE 2 (hK62 _ _ ?_)
 refine W.sr fun K74 hK74 => ?_
 refine zR 1 ?_
 refine ops_R (runs_loadAgg (ad := ⟨b30, 0, none⟩) (cs := [(.int .i64 1), (.int .i64 (2 + 1 % 20)), (.int .i64 (2 + 9 % 60))]) (by kernel_rfl) (cells_sub (hs73.heapAt 3 rfl) rfl)) ?_
 obtain ⟨r75, h76, hm⟩ := bind_some hm
 have hs79 := St.f1 hs73
 refine ops_call1 hs79 (by kernel_rfl) (eList_walk (vb := b55) (gw := 1) (gi := (2 + 1 % 20)) (gb := (2 + 9 % 60)) (n_ := 0) (img := ((fmtW 1 (2 + 1 % 20) (2 + 9 % 60)).set r41.toNat 1)) (l := []) (hm := h76) B _) ?_
 rintro _ _ w80 ⟨a77, c78, rfl, rfl⟩ hs81
 have hs82 := St.ap2 hs81
 refine zE 5 (hK74 _ _ ?_)
 refine W.sr fun K83 hK83 => ?_
 refine zR 1 ?_
 refine ops_R (runs_loadAgg (ad := ⟨b30, 0, none⟩) (cs := [(.int .i64 1), (.int .i64 (2 + 1 % 20)), (.int .i64 (2 + 9 % 60))]) (by kernel_rfl) (cells_sub (hs82.heapAt 4 rfl) rfl)) ?_
 refine zR 1 ?_
 obtain ⟨r84, h85, hm⟩ := bind_some hm
 have hs86 := St.f1 hs82
 refine zC11 hs86 (eAdd_walk (vb := b55) (hG := hG) (hT := (hs82.oldCells hT)) (gw := 1) (gi := (2 + 1 % 20)) (gb := (2 + 9 % 60)) (n_ := 1) (xn_ := (ByteArray.mk #[97])) (xi_ := 3) (img := ((fmtW 1 (2 + 1 % 20) (2 + 9 % 60)).set r41.toNat 1)) (l := []) (hm := h85) B _) fun w87 hs89 => ?_
 refine zE 1 (hK83 _ _ ?_)
 refine W.sr fun K90 hK90 => ?_
 refine zR 3 ?_
 refine ops_R (runs_loadAgg (ad := ⟨b14, 0, none⟩) (cs := [(.string ByteArray.empty), (.int .i64 0)]) (by kernel_rfl) (cells_sub (hs89.heapAt 5 rfl) rfl)) ?_
 refine zR 1 ?_
 refine ops_R (v := (.bool ((ByteArray.empty == ByteArray.empty) && (true && true)))) (runs_eq (b := ((ByteArray.empty == ByteArray.empty) && (true && true))) (by kernel_rfl)) ?_
 refine zR 2 ?_
 rcases Bool.eq_false_or_eq_true ((ByteArray.empty == ByteArray.empty) && (true && true)) with h91 | h91
 ·
  have h91p : ByteArray.empty = ByteArray.empty := rfl
  replace hm := ite_yes hm h91p
  refine zS 71 h91 ?_
  refine zS 69 h91 ?_
  refine zS 70 h91 ?_
  refine zR 13 ?_
  refine ops_R (runs_loadAgg (ad := ⟨b4, 0, none⟩) (cs := [(.int .i64 gw), (.int .i64 gi), (.int .i64 gb)]) (by kernel_rfl) (cells_sub (hs89.heapAt 7 rfl) rfl)) ?_
  refine zR 1 ?_
  refine ops_R (runs_loadAgg (ad := ⟨b7, 0, none⟩) (cs := [(.string xn_), (.int .i64 xi_)]) (by kernel_rfl) (cells_sub (hs89.heapAt 6 rfl) rfl)) ?_
  refine zC00 hs89 (eAdd_nil (gw := gw) (gi := gi) (gb := gb) (n_ := n_) (xn_ := xn_) (xi_ := xi_) B _) fun w92 hs94 => ?_
  refine zR 3 ?_
  refine ops_R (runs_loadAgg (ad := ⟨b4, 0, none⟩) (cs := [(.int .i64 gw), (.int .i64 gi), (.int .i64 gb)]) (by kernel_rfl) (cells_sub (hs94.heapAt 7 rfl) rfl)) ?_
  refine zR 1 ?_
  refine ops_R (runs_loadAgg (ad := ⟨b7, 0, none⟩) (cs := [(.string xn_), (.int .i64 xi_)]) (by kernel_rfl) (cells_sub (hs94.heapAt 6 rfl) rfl)) ?_
  refine zC00 hs94 (eChange_nil (gw := gw) (gi := gi) (gb := gb) (n_ := n_) (xn_ := xn_) (xi_ := xi_) B _) fun w95 hs97 => ?_
  refine zR 3 ?_
  refine ops_R (runs_loadAgg (ad := ⟨b4, 0, none⟩) (cs := [(.int .i64 gw), (.int .i64 gi), (.int .i64 gb)]) (by kernel_rfl) (cells_sub (hs97.heapAt 7 rfl) rfl)) ?_
  refine zR 2 ?_
  refine zL ⟨b7, 0, none⟩ (.string xn_) (hs97.cellAt 6 rfl rfl) ?_
  refine zC00 hs97 (eRemove_nil (gw := gw) (gi := gi) (gb := gb) (n_ := n_) (tx_ := xn_) B _) fun w98 hs100 => ?_
  refine zR 7 ?_
  rcases Bool.eq_false_or_eq_true (decide (r63.2.2.2 = 10)) with h101 | h101
  ·
   obtain ⟨h101p, hm⟩ := iY hm h101
   refine zS 110 h101 ?_
   refine zS 108 h101 ?_
   refine zS 109 h101 ?_
   refine zR 4 ?_
   rcases Bool.eq_false_or_eq_true (decide (r75.2 = 1)) with h102 | h102
   ·
    obtain ⟨h102p, hm⟩ := iY hm h102
    refine zS 114 h102 ?_
    refine zS 112 h102 ?_
    refine zS 113 h102 ?_
    refine zR 4 ?_
    rcases Bool.eq_false_or_eq_true (decide (r84.1 = 1)) with h103 | h103
    ·
     obtain ⟨h103p, hm⟩ := iY hm h103
     refine zS 118 h103 ?_
     refine zS 116 h103 ?_
     refine zS 117 h103 ?_
     obtain ⟨r104, h105, hm⟩ := bind_some hm
     refine zC00 hs100 (works15_walk (hG := hG) (hT := (hs100.oldCells hT)) (hm := h105) B _) fun w106 hs108 => ?_
     refine zE 2 (hK90 _ _ ?_)
     refine W.ret ?_
     have hs109 := St.tk0 hs108
     refine ret_of (.bool r104) (by kernel_rfl) ⟨_, ⟨congrArg Value.bool (some_inj hm), rfl⟩, hs109⟩
    ·
     obtain ⟨h103p, hm⟩ := iN hm h103
     refine zS 118 h103 ?_
     refine zS 116 h103 ?_
     refine zS 117 h103 ?_
     refine zE 3 (hK90 _ _ ?_)
     refine W.ret ?_
     have hs110 := St.tk0 hs100
     refine ret_of (.bool false) (by kernel_rfl) ⟨_, ⟨congrArg Value.bool (some_inj hm), rfl⟩, hs110⟩
   ·
    obtain ⟨h102p, hm⟩ := iN hm h102
    refine zS 114 h102 ?_
    refine zS 112 h102 ?_
    refine zS 113 h102 ?_
    refine zE 7 (hK90 _ _ ?_)
    refine W.ret ?_
    have hs111 := St.tk0 hs100
    refine ret_of (.bool false) (by kernel_rfl) ⟨_, ⟨congrArg Value.bool (some_inj hm), rfl⟩, hs111⟩
  ·
   obtain ⟨h101p, hm⟩ := iN hm h101
   refine zS 110 h101 ?_
   refine zS 108 h101 ?_
   refine zS 109 h101 ?_
   refine zE 11 (hK90 _ _ ?_)
   refine W.ret ?_
   have hs112 := St.tk0 hs100
   refine ret_of (.bool false) (by kernel_rfl) ⟨_, ⟨congrArg Value.bool (some_inj hm), rfl⟩, hs112⟩
 ·
  have h91p : ¬ (ByteArray.empty = ByteArray.empty) := by simp at h91
  replace hm := ite_no hm h91p
  refine zS 71 h91 ?_
  refine zS 69 h91 ?_
  refine zS 70 h91 ?_
  refine zE 50 (hK90 _ _ ?_)
  refine W.ret ?_
  have hs113 := St.tk0 hs89
  refine ret_of (.bool false) (by kernel_rfl) ⟨_, ⟨congrArg Value.bool (some_inj hm), rfl⟩, hs113⟩

end Go.Proofs.YtmmclabkkigiaaaGreatDoor

namespace Go.Proofs.YtmmclabkkigiaaaGreatDoor
open Go Go.RowKit
set_option linter.unusedVariables false
set_option linter.unusedSimpArgs false
def nilW : List Int := (fmtW 1 3 11).set 520 1
theorem nil_two : igetM nilW [] 1 3 11 2 = (⟨1, 0, 0, 0, 0, 0, 0, 0, 0, 0⟩, 0) := by kernel_rfl
theorem nil_none : igetM nilW [] 1 3 11 0 = (Nd.zero, 1) := by kernel_rfl
theorem entrynil_law : entrynil_M = some true := by
  refine Ok.true ?_
  have hM : May 1 3 11 := by unfold May; omega
  have hw := words_may hM
  have hl := fmtW_len 1 3 11
  have h8 := place8_in (n := 2) hM (by omega)
  have e1 : eFind_M nilW [] 1 3 11 2 (ByteArray.mk #[97]) = some (ByteArray.empty, 0, 0, 10) := by
    unfold eFind_M
    rw [nil_two, if_pos rfl, if_neg (by decide)]
  have e2 : eList_M nilW [] 1 3 11 0 = some ([], 1) := by
    unfold eList_M
    rw [nil_none, if_neg (by decide)]
    exact bind_of rfl rfl
  have e3 : eAdd_M nilW [] 1 3 11 1 (ByteArray.mk #[97]) 3 = some (1, []) := by
    unfold eAdd_M emay2_M
    rw [if_neg (by omega), if_pos (by omega)]
    rfl
  unfold entrynil_M
  rw [show (2 : Int) + 1 % 20 = 3 by omega, show (2 : Int) + 9 % 60 = 11 by omega, h8]
  refine Ok.need (by omega) (Ok.need (by omega) (Ok.name fun r hr => ?_))
  have er : r = 520 := by omega
  subst er
  rw [show (fmtW 1 3 11).set (520 : Int).toNat 1 = nilW from rfl]
  have hn : nilW.length = (fmtW 1 3 11).length := by unfold nilW; rw [List.length_set]
  refine Ok.need (by omega) (Ok.need hn.symm (Ok.need (by omega) (Ok.got15 e1 (Ok.got15 e2 (Ok.got15 e3 ?_)))))
  exact Ok.yes rfl (Ok.yes rfl (Ok.yes rfl (Ok.yes rfl works15_stop)))
end Go.Proofs.YtmmclabkkigiaaaGreatDoor
