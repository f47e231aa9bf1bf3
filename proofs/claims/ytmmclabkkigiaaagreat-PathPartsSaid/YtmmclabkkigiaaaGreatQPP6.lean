/- Texts, one behind the other: A8k, Sz, A8l, F8o, A8m, A8n, A8s, A8w, P8w, K18, A9t, Zv, Zx, A8e, A8f, Zw, Zy. -/
import Derived.Test.YtmmclabkkigiaaaGreatQPP5
set_option linter.unusedVariables false
set_option linter.unusedSimpArgs false
set_option maxRecDepth 20000
set_option maxHeartbeats 4000000
namespace Go.Proofs.YtmmclabkkigiaaaGreat
open Go Go.RowKit
def pstep_M (img : List Int) (l : List (Int × Int)) (gw : Int) (gi : Int) (gb : Int) (n_ : Int) (tx_ : ByteArray) : Option (Int × Int) :=
 (eFind_M img l gw gi gb n_ tx_).bind fun r6 =>
some (r6.2.1, r6.2.2.2)
theorem pstep_walk {img : List Int} {l : List (Int × Int)} {gw : Int} {gi : Int} {gb : Int} {n_ : Int} {tx_ : ByteArray} {vb : Nat} {r : Int × Int} (B : Nat) (w : World) (hm : pstep_M img l gw gi gb n_ tx_ = some r) : Spec Tryz.prog 30 #[(.agg #[(zp vb), (zi gw), (zi gi), (zi gb)]), (zi n_), (.string tx_)] B w [viewA (ptr vb) img l] (fun v H' => v = (.tuple #[(zi r.1), (zi r.2)]) ∧ H' = [viewA (ptr vb) img l]) := by
 refine spec_W Tryz.func30 rfl fun l0 hs => ?_
 unfold pstep_M at hm
 refine W.sr fun K1 hK1 => ?_
 refine zN [(zp vb), (zi gw), (zi gi), (zi gb)] 89 hs fun b4 w2 hs3 => ?_
 refine zE 2 (hK1 _ _ ?_)
 refine W.sr fun K5 hK5 => ?_
 refine zR 1 ?_
 refine zL ⟨b4, 0, none⟩ (zp vb) (hs3.cellAt 0 rfl rfl) ?_
 refine zR 1 ?_
 refine zG ⟨b4, 1, none⟩ [(zi gw), (zi gi), (zi gb)] (cells_sub (hs3.heapAt 0 rfl) rfl) ?_
 refine zR 2 ?_
 obtain ⟨r6, h7, hm⟩ := bind_some hm
 have hs8 := St.f1 hs3
 refine zC11 hs8 (eFind_walk (vb := vb) (gw := gw) (gi := gi) (gb := gb) (n_ := n_) (tx_ := tx_) (img := img) (l := l) (hm := h7) B _) fun w9 hs11 => ?_
 refine zR 4 ?_
 refine zN [(.string ByteArray.empty), (zi 0)] 59 hs11 fun b14 w12 hs13 => ?_
 refine zT 0 [(.string r6.1), (zi r6.2.1)] [(.string r6.1), (zi r6.2.1)] hs13 fun w15 hs17 => ?_
 refine zE 2 (hK5 _ _ ?_)
 refine W.sr fun K18 hK18 => ?_
 refine zR 1 ?_
 refine zL ⟨b14, 1, none⟩ (zi r6.2.1) (hs17.cellAt 0 rfl rfl) ?_
 refine zE 3 (hK18 _ _ ?_)
 refine W.ret ?_
 obtain rfl := some_inj hm
 have hs19 := St.f1 hs17
 have hs20 := St.tk1 hs19
 refine ret_of (.tuple #[(zi r6.2.1), (zi r6.2.2.2)]) (by kernel_rfl) ⟨_, ⟨rfl, rfl⟩, hs20⟩
end Go.Proofs.YtmmclabkkigiaaaGreat

namespace Go.Proofs.YtmmclabkkigiaaaGreat
open Go Go.RowKit
section
variable {B : Nat} {w : World} {l : List Nat}
theorem row_at {α : Type} {K : Kind α} {a : Option Addr} {c : Nat} {xs : List α} (h : (K.row a c xs).P B w l) : CellsAt a (K.cells xs) w := rowA_cells h
end
section
variable {M : Bool} {P : Program} {ops : Array Oper} {i : Nat} {s : Fs} {w : World} {K : Fs → World → Prop}
end
end Go.Proofs.YtmmclabkkigiaaaGreat

set_option maxRecDepth 20000
set_option maxHeartbeats 4000000
namespace Go.Proofs.YtmmclabkkigiaaaGreat
open Go Go.RowKit
def pwalk_B0 (img : List Int) (l : List (Int × Int)) (gw : Int) (gi : Int) (gb : Int) (xs : List ByteArray) (k7 : (Int × Int) → Option (Int × Int)) (p5 : Int) (p6 : Int) : Option (Int × Int) :=
 if p6 < (xs.length : Int) then (need (0 ≤ p6 ∧ p6 < (xs.length : Int)) <|
(pstep_M img l gw gi gb p5 (xs.getD p6.toNat ByteArray.empty)).bind fun r19 =>
if r19.2 = 0 then (need (-9223372036854775808 ≤ (p6 + 1) ∧ (p6 + 1) ≤ 9223372036854775807) <|
k7 (r19.1, (p6 + 1))) else (some (0, r19.2))) else (some (p5, 0))
def pwalk_M (img : List Int) (l : List (Int × Int)) (gw : Int) (gi : Int) (gb : Int) (xs : List ByteArray) : Option (Int × Int) :=
 iter (fun k_ s_ => pwalk_B0 img l gw gi gb xs k_ s_.1 s_.2) FUEL (1, 0)
theorem pwalk_walk {img : List Int} {l : List (Int × Int)} {gw : Int} {gi : Int} {gb : Int} {xs : List ByteArray} {vb : Nat} {A_ : Asn} {xa : Option Addr} {xc : Nat} {r : Int × Int} (B : Nat) (w : World) (hA : ∀ {B_ : Nat} {w_ : World} {l_ : List Nat}, A_.P B_ w_ l_ → CellsAt xa (kStr.cells xs) w_) (hm : pwalk_M img l gw gi gb xs = some r) : Spec Tryz.prog 29 #[(.slice xa xs.length xc), (.func (.func 30) #[(.agg #[(zp vb), (zi gw), (zi gi), (zi gb)])] #[])] B w [viewA (ptr vb) img l, A_] (fun v H' => v = (.tuple #[(zi r.1), (zi r.2)]) ∧ H' = [viewA (ptr vb) img l, A_]) := by
 refine spec_W Tryz.func29 rfl fun l0 hs => ?_
 unfold pwalk_M at hm
 refine W.sr fun K1 hK1 => ?_
 refine zE 2 (hK1 _ _ ?_)
 refine W.sr fun K2 hK2 => ?_
 refine zE 1 (hK2 _ _ ?_)
 refine W.seq fun K3 hK3 => ?_
 refine W.sr fun K4 hK4 => ?_
 refine zE 3 (hK4 _ _ ?_)
 refine W.block ?_
 refine W.loop_iter (G := Int × Int) (σ := Int × Int) (fun | (p5, p6) => (p5, p6)) (fun | (p5, p6), s_, w_ => (∃ us, s_ = slots 30 [(1, (.func (.func 30) #[(.agg #[(zp vb), (zi gw), (zi gi), (zi gb)])] #[])), (6, (zi p5)), (11, (.slice xa xs.length xc)), (12, (zi (xs.length : Int))), (13, (zi p6))] us) ∧ St B w l0 w_ [viewA (ptr vb) img l, A_]) (1, 0) ⟨slots_intro _ (by kernel_rfl), hs⟩ hm ?_
 rintro k7 ih8 ⟨p5, p6⟩ _ w9 ⟨⟨us, rfl⟩, hs10⟩ hm
 replace hm : pwalk_B0 img l gw gi gb xs k7 p5 p6 = some r := hm
 unfold pwalk_B0 at hm
 refine W.sr fun K11 hK11 => ?_
 refine zE 1 (hK11 _ _ ?_)
 refine W.seq fun K12 hK12 => ?_
 refine W.cond (decide (p6 < (xs.length : Int))) (by kernel_rfl) (fun h13 => ?_) (fun h13 => ?_)
 ·
  obtain ⟨h13p, hm⟩ := iY hm h13
  refine W.skip ?_
  refine hK12 _ _ ?_
  refine W.seq fun K14 hK14 => ?_
  refine W.block ?_
  refine W.sr fun K15 hK15 => ?_
  obtain ⟨h17, hm⟩ := need_some hm
  have hk16 := lt_toNat h17
  refine ops_R (runs_index (a := xa) (n := xs.length) (z := p6) (size := 1) p6.toNat (nat_of h17.1) hk16 (kStr.addr (hs10.entAt 1 rfl hA) hk16) (by kernel_rfl)) ?_
  refine zL ((adr xa (p6.toNat * 1)).add 0) (.string (xs.getD p6.toNat ByteArray.empty)) (kStr.at (hs10.entAt 1 rfl hA) hk16 ByteArray.empty 0 rfl) ?_
  refine zE 1 (hK15 _ _ ?_)
  refine W.sr fun K18 hK18 => ?_
  refine zR 3 ?_
  obtain ⟨r19, h20, hm⟩ := bind_some hm
  refine zC11 hs10 (pstep_walk (vb := vb) (img := img) (l := l) (gw := gw) (gi := gi) (gb := gb) (n_ := p5) (tx_ := (xs.getD p6.toNat ByteArray.empty)) (hm := h20) B _) fun w21 hs23 => ?_
  refine zE 5 (hK18 _ _ ?_)
  refine W.seq fun K24 hK24 => ?_
  refine W.sr fun K25 hK25 => ?_
  refine zE 2 (hK25 _ _ ?_)
  refine W.cond (!decide (r19.2 = 0)) (by kernel_rfl) (fun h26 => ?_) (fun h26 => ?_)
  rotate_left
  ·
   have h26p : r19.2 = 0 := of_decide_eq_true (bnot_false h26)
   replace hm := ite_yes hm h26p
   refine W.skip ?_
   refine hK24 _ _ ?_
   refine W.region ?_
   refine zE 2 ?_
   refine normal_block ?_
   refine hK14 _ _ ?_
   refine W.region ?_
   obtain ⟨h27, hm⟩ := need_some hm
   refine zI _ (wrap_i64 h27.1 h27.2) ?_
   refine zE 1 ?_
   refine loopAt_next ?_
   exact ih8 (r19.1, (p6 + 1)) _ _ ⟨slots_intro _ (by kernel_rfl), hs23⟩ hm
  have h26p : ¬ (r19.2 = 0) := of_decide_eq_false (bnot_true h26)
  replace hm := ite_no hm h26p
  refine W.sr fun K28 hK28 => ?_
  refine zE 3 (hK28 _ _ ?_)
  refine W.ret (ret_seq (ret_block (ret_seq (ret_seq (ret_block (ret_seq ?_))))))
  obtain rfl := some_inj hm
  refine ret_of (.tuple #[(zi 0), (zi r19.2)]) (by kernel_rfl) ⟨_, ⟨rfl, rfl⟩, hs23⟩
 obtain ⟨h13p, hm⟩ := iN hm h13
 refine W.exit (exit_seq (exit_seq (exit_here ?_)))
 refine hK3 _ _ ?_
 refine W.sr fun K29 hK29 => ?_
 refine zE 3 (hK29 _ _ ?_)
 refine W.ret ?_
 obtain rfl := some_inj hm
 refine ret_of (.tuple #[(zi p5), (zi 0)]) (by kernel_rfl) ⟨_, ⟨rfl, rfl⟩, hs10⟩
end Go.Proofs.YtmmclabkkigiaaaGreat

set_option maxRecDepth 20000
set_option maxHeartbeats 1000000
namespace Go.Proofs.YtmmclabkkigiaaaGreat
open Go Go.RowKit
theorem popen_ok {vb : Nat} {img : List Int} {l : List (Int × Int)} {gw gi gb : Int} (B : Nat) (w : World) (hv : ViewAt (ptr vb) img l w) (hP : May gw gi gb ∧ wordsOf gw gi gb ≤ (img.length : Int)) : Spec Tryz.prog 28 #[(zp vb), (.agg #[(zi gw), (zi gi), (zi gb)])] B w [] (fun v H' => v = (.tuple #[(.agg #[(zp vb), (zi gw), (zi gi), (zi gb)]), (zi 0)]) ∧ H' = []) := by
 refine spec_Q Tryz.func28 rfl fun hs => ?_
 have hm : May gw gi gb := hP.1
 have hl := hP.2
 refine W.sr fun K1 hK1 => ?_
 refine zN [(zi gw), (zi gi), (zi gb)] 24 hs fun b4 w2 hs3 => ?_
 refine zN [(.pointer none), (zi 0), (zi 0), (zi 0)] 89 hs3 fun b7 w5 hs6 => ?_
 refine zE 1 (hK1 _ _ ?_)
 refine W.seq fun K8 hK8 => ?_
 refine W.block ?_
 refine W.sr fun K9 hK9 => ?_
 refine zE 3 (hK9 _ _ ?_)
 refine W.cond_false false (by kernel_rfl) rfl ?_
 refine W.sr fun K10 hK10 => ?_
 refine zG ⟨b4, 0, none⟩ [(zi gw), (zi gi), (zi gb)] (cells_sub (hs6.heapAt 1 rfl) rfl) ?_
 refine zC00 hs6 (may_spec (gw := gw) (gi := gi) (gb := gb) B _) fun w11 hs13 => ?_
 refine zE 2 (hK10 _ _ ?_)
 refine W.cond (!(decide (May gw gi gb))) (by kernel_rfl) (fun h14 => ?_) (fun h14 => ?_)
 ·
  have h14p : ¬ (May gw gi gb) := of_decide_eq_false (bnot_true h14)
  refine W.sr fun K15 hK15 => ?_
  refine zR 1 ?_
  refine zT 0 [(.pointer none), (zi 0), (zi 0), (zi 0)] [(.pointer none), (zi 0), (zi 0), (zi 0)] hs13 fun w16 hs18 => ?_
  refine zE 1 (hK15 _ _ ?_)
  refine W.ret (ret_block (ret_seq ?_))
  exfalso
  first | omega | exact absurd hP.1 (by assumption)
 have h14p : May gw gi gb := of_decide_eq_true (bnot_false h14)
 refine W.seq fun K19 hK19 => ?_
 have hs20 := hs13.drew
 refine W.regionD [(0, 0), (1, 1), (0, 0), (6, 4), (10, 10), (24, 16)] (fun w_ => St B w [] w_ [zb b7 89 [(.pointer none), (zi 0), (zi 0), (zi 0)], zb b4 24 [(zi gw), (zi gi), (zi gb)]]) (by kernel_rfl) hs20 ?_
 refine zA (zp vb) 0 hs20 ?_
 refine any_R 2 (by kernel_rfl) (fun _ hS_ => runs_loadAgg (ad := ⟨b4, 0, none⟩) (cs := [(zi gw), (zi gi), (zi gb)]) (by kernel_rfl) (cells_sub (hS_.heapAt 1 rfl) rfl)) hs20 ?_
 refine any_step 1 (by kernel_rfl) (by kernel_rfl) ?_
 refine zC00 hs20 (len_spec (hv := (viewAt_old hs20 hv)) B _) fun w21 hs23 => ?_
 refine ops_done (by kernel_rfl) ⟨hs23, ?_⟩
 refine any_step 3 (by kernel_rfl) (by kernel_rfl) ?_
 refine zC00 hs23 (lwords_spec (gw := gw) (gi := gi) (gb := gb) B _) fun w24 hs26 => ?_
 refine ops_done (by kernel_rfl) ⟨hs26, ?_⟩
 refine zA (.bool (decide ((img.length : Int) < (wordsOf gw gi gb)))) 4 hs26 ?_
 refine zA (.bool (decide ((img.length : Int) < (wordsOf gw gi gb)))) 5 hs26 ?_
 refine any_done (by kernel_rfl) ?_
 refine hK19 _ _ ?_
 refine W.cond (decide ((img.length : Int) < (wordsOf gw gi gb))) (by kernel_rfl) (fun h27 => ?_) (fun h27 => ?_)
 ·
  have h27p := of_decide_eq_true h27
  refine W.sr fun K28 hK28 => ?_
  refine zR 1 ?_
  refine zT 0 [(.pointer none), (zi 0), (zi 0), (zi 0)] [(.pointer none), (zi 0), (zi 0), (zi 0)] hs26 fun w29 hs31 => ?_
  refine zE 1 (hK28 _ _ ?_)
  refine W.ret (ret_block (ret_seq ?_))
  exfalso
  first | omega | exact absurd hP.1 (by assumption)
 have h27p := of_decide_eq_false h27
 refine W.skip ?_
 refine normal_block ?_
 refine hK8 _ _ ?_
 refine W.sr fun K32 hK32 => ?_
 refine zR 1 ?_
 refine zG ⟨b4, 0, none⟩ [(zi gw), (zi gi), (zi gb)] (cells_sub (hs26.heapAt 1 rfl) rfl) ?_
 refine zR 1 ?_
 refine zT 0 [(zp vb), (zi gw), (zi gi), (zi gb)] [(zp vb), (zi gw), (zi gi), (zi gb)] hs26 fun w33 hs35 => ?_
 refine zE 1 (hK32 _ _ ?_)
 refine W.ret ?_
 have hs36 := St.tk0 hs35
 refine ret_of (.tuple #[(.agg #[(zp vb), (zi gw), (zi gi), (zi gb)]), (zi 0)]) (resS_of (by kernel_rfl) (resD_two rfl (.agg (ad := ⟨b7, 0, none⟩) (cs := [(zp vb), (zi gw), (zi gi), (zi gb)]) (by kernel_rfl) (by kernel_rfl) (cells_sub (hs35.heapAt 0 rfl) rfl)) (.tmp (by kernel_rfl)))) ⟨_, ⟨rfl, rfl⟩, hs36⟩
theorem popen_err {vb : Nat} {img : List Int} {l : List (Int × Int)} {gw gi gb : Int} (B : Nat) (w : World) (hv : ViewAt (ptr vb) img l w) (hN : ¬ (May gw gi gb ∧ wordsOf gw gi gb ≤ (img.length : Int))) : Spec Tryz.prog 28 #[(zp vb), (.agg #[(zi gw), (zi gi), (zi gb)])] B w [] (fun v H' => v = .tuple #[(.agg #[(.pointer none), (zi 0), (zi 0), (zi 0)]), .int .i64 (if May gw gi gb then 8 else 1)] ∧ H' = []) := by
 refine spec_Q Tryz.func28 rfl fun hs => ?_
 refine W.sr fun K1 hK1 => ?_
 refine zN [(zi gw), (zi gi), (zi gb)] 24 hs fun b4 w2 hs3 => ?_
 refine zN [(.pointer none), (zi 0), (zi 0), (zi 0)] 89 hs3 fun b7 w5 hs6 => ?_
 refine zE 1 (hK1 _ _ ?_)
 refine W.seq fun K8 hK8 => ?_
 refine W.block ?_
 refine W.sr fun K9 hK9 => ?_
 refine zE 3 (hK9 _ _ ?_)
 refine W.cond_false false (by kernel_rfl) rfl ?_
 refine W.sr fun K10 hK10 => ?_
 refine zG ⟨b4, 0, none⟩ [(zi gw), (zi gi), (zi gb)] (cells_sub (hs6.heapAt 1 rfl) rfl) ?_
 refine zC00 hs6 (may_spec (gw := gw) (gi := gi) (gb := gb) B _) fun w11 hs13 => ?_
 refine zE 2 (hK10 _ _ ?_)
 refine W.cond (!(decide (May gw gi gb))) (by kernel_rfl) (fun h14 => ?_) (fun h14 => ?_)
 ·
  have h14p : ¬ (May gw gi gb) := of_decide_eq_false (bnot_true h14)
  refine W.sr fun K15 hK15 => ?_
  refine zR 1 ?_
  refine zT 0 [(.pointer none), (zi 0), (zi 0), (zi 0)] [(.pointer none), (zi 0), (zi 0), (zi 0)] hs13 fun w16 hs18 => ?_
  refine zE 1 (hK15 _ _ ?_)
  refine W.ret (ret_block (ret_seq ?_))
  have hs19 := St.tk0 hs18
  refine ret_of (.tuple #[(.agg #[(.pointer none), (zi 0), (zi 0), (zi 0)]), (zi 1)]) (resS_of (by kernel_rfl) (resD_two rfl (.agg (ad := ⟨b7, 0, none⟩) (cs := [(.pointer none), (zi 0), (zi 0), (zi 0)]) (by kernel_rfl) (by kernel_rfl) (cells_sub (hs18.heapAt 0 rfl) rfl)) (.tmp (by kernel_rfl)))) ⟨_, ⟨congrArg (fun z => Value.tuple #[(.agg #[(.pointer none), (zi 0), (zi 0), (zi 0)]), .int .i64 z]) (if_neg (by assumption)).symm, rfl⟩, hs19⟩
 have h14p : May gw gi gb := of_decide_eq_true (bnot_false h14)
 refine W.seq fun K20 hK20 => ?_
 have hs21 := hs13.drew
 refine W.regionD [(0, 0), (1, 1), (0, 0), (6, 4), (10, 10), (24, 16)] (fun w_ => St B w [] w_ [zb b7 89 [(.pointer none), (zi 0), (zi 0), (zi 0)], zb b4 24 [(zi gw), (zi gi), (zi gb)]]) (by kernel_rfl) hs21 ?_
 refine zA (zp vb) 0 hs21 ?_
 refine any_R 2 (by kernel_rfl) (fun _ hS_ => runs_loadAgg (ad := ⟨b4, 0, none⟩) (cs := [(zi gw), (zi gi), (zi gb)]) (by kernel_rfl) (cells_sub (hS_.heapAt 1 rfl) rfl)) hs21 ?_
 refine any_step 1 (by kernel_rfl) (by kernel_rfl) ?_
 refine zC00 hs21 (len_spec (hv := (viewAt_old hs21 hv)) B _) fun w22 hs24 => ?_
 refine ops_done (by kernel_rfl) ⟨hs24, ?_⟩
 refine any_step 3 (by kernel_rfl) (by kernel_rfl) ?_
 refine zC00 hs24 (lwords_spec (gw := gw) (gi := gi) (gb := gb) B _) fun w25 hs27 => ?_
 refine ops_done (by kernel_rfl) ⟨hs27, ?_⟩
 refine zA (.bool (decide ((img.length : Int) < (wordsOf gw gi gb)))) 4 hs27 ?_
 refine zA (.bool (decide ((img.length : Int) < (wordsOf gw gi gb)))) 5 hs27 ?_
 refine any_done (by kernel_rfl) ?_
 refine hK20 _ _ ?_
 refine W.cond (decide ((img.length : Int) < (wordsOf gw gi gb))) (by kernel_rfl) (fun h28 => ?_) (fun h28 => ?_)
 ·
  have h28p := of_decide_eq_true h28
  refine W.sr fun K29 hK29 => ?_
  refine zR 1 ?_
  refine zT 0 [(.pointer none), (zi 0), (zi 0), (zi 0)] [(.pointer none), (zi 0), (zi 0), (zi 0)] hs27 fun w30 hs32 => ?_
  refine zE 1 (hK29 _ _ ?_)
  refine W.ret (ret_block (ret_seq ?_))
  have hs33 := St.tk0 hs32
  refine ret_of (.tuple #[(.agg #[(.pointer none), (zi 0), (zi 0), (zi 0)]), (zi 8)]) (resS_of (by kernel_rfl) (resD_two rfl (.agg (ad := ⟨b7, 0, none⟩) (cs := [(.pointer none), (zi 0), (zi 0), (zi 0)]) (by kernel_rfl) (by kernel_rfl) (cells_sub (hs32.heapAt 0 rfl) rfl)) (.tmp (by kernel_rfl)))) ⟨_, ⟨congrArg (fun z => Value.tuple #[(.agg #[(.pointer none), (zi 0), (zi 0), (zi 0)]), .int .i64 z]) (if_pos (by assumption)).symm, rfl⟩, hs33⟩
 have h28p := of_decide_eq_false h28
 refine W.skip ?_
 refine normal_block ?_
 refine hK8 _ _ ?_
 refine W.sr fun K34 hK34 => ?_
 refine zR 1 ?_
 refine zG ⟨b4, 0, none⟩ [(zi gw), (zi gi), (zi gb)] (cells_sub (hs27.heapAt 1 rfl) rfl) ?_
 refine zR 1 ?_
 refine zT 0 [(zp vb), (zi gw), (zi gi), (zi gb)] [(zp vb), (zi gw), (zi gi), (zi gb)] hs27 fun w35 hs37 => ?_
 refine zE 1 (hK34 _ _ ?_)
 refine W.ret ?_
 exfalso
 first | omega | exact hN ⟨by assumption, by omega⟩
end Go.Proofs.YtmmclabkkigiaaaGreat

set_option maxRecDepth 20000
set_option maxHeartbeats 4000000
namespace Go.Proofs.YtmmclabkkigiaaaGreat
open Go Go.RowKit
def pWalk_M (img : List Int) (l : List (Int × Int)) (gw : Int) (gi : Int) (gb : Int) (tx_ : ByteArray) : Option (Int × Int) :=
 if May gw gi gb ∧ wordsOf gw gi gb ≤ (img.length : Int) then ((psplit_M tx_).bind fun r22 =>
if r22.2 = 0 then ((pwalk_M img l gw gi gb r22.1).bind fun r31 =>
some (r31.1, r31.2)) else (some (0, r22.2))) else ((some (if May gw gi gb then (8 : Int) else 1)).bind fun r50 =>
if r50 = 0 then (none) else (some (0, r50)))
theorem pWalk_walk {img : List Int} {l : List (Int × Int)} {gw : Int} {gi : Int} {gb : Int} {tx_ : ByteArray} {vb : Nat} {r : Int × Int} (B : Nat) (w : World) (hm : pWalk_M img l gw gi gb tx_ = some r) : Spec Tryz.prog 9 #[(zp vb), (.agg #[(zi gw), (zi gi), (zi gb)]), (.string tx_)] B w [viewA (ptr vb) img l] (fun v H' => v = (.tuple #[(zi r.1), (zi r.2)]) ∧ H' = [viewA (ptr vb) img l]) := by
 refine spec_W Tryz.func9 rfl fun l0 hs => ?_
 unfold pWalk_M at hm
 refine W.sr fun K1 hK1 => ?_
 refine zN [(zi gw), (zi gi), (zi gb)] 24 hs fun b4 w2 hs3 => ?_
 refine zE 2 (hK1 _ _ ?_)
 refine W.sr fun K6 hK6 => ?_
 refine zR 1 ?_
 refine zG ⟨b4, 0, none⟩ [(zi gw), (zi gi), (zi gb)] (cells_sub (hs3.heapAt 0 rfl) rfl) ?_
 rcases Bool.eq_false_or_eq_true (decide (May gw gi gb ∧ wordsOf gw gi gb ≤ (img.length : Int))) with h7 | h7
 ·
  obtain ⟨h7p, hm⟩ := iY hm h7
  refine zC00 hs3 (popen_ok (gw := gw) (gi := gi) (gb := gb) (hv := (hs3.entAt 1 rfl viewA_at)) (hP := h7p) B _) fun w8 hs10 => ?_
  refine zR 3 ?_
  refine zN [(.pointer none), (zi 0), (zi 0), (zi 0)] 89 hs10 fun b13 w11 hs12 => ?_
  refine zT 0 [(zp vb), (zi gw), (zi gi), (zi gb)] [(zp vb), (zi gw), (zi gi), (zi gb)] hs12 fun w14 hs16 => ?_
  refine zE 1 (hK6 _ _ ?_)
  refine W.seq fun K17 hK17 => ?_
  refine W.sr fun K18 hK18 => ?_
  refine zE 2 (hK18 _ _ ?_)
  refine W.cond_false false (by kernel_rfl) rfl ?_
  refine W.skip ?_
  refine hK17 _ _ ?_
  refine W.sr fun K19 hK19 => ?_
  refine zR 1 ?_
  obtain ⟨r22, h23, hm⟩ := bind_some hm
  refine ops_call0 hs16 (by kernel_rfl) (psplit_walk (tx_ := tx_) (hm := h23) B _) ?_
  rintro _ _ w24 ⟨a20, c21, rfl, rfl⟩ hs25
  have hs26 := St.ap1 hs25
  refine zE 5 (hK19 _ _ ?_)
  refine W.seq fun K27 hK27 => ?_
  refine W.sr fun K28 hK28 => ?_
  refine zE 2 (hK28 _ _ ?_)
  refine W.cond (!decide (r22.2 = 0)) (by kernel_rfl) (fun h29 => ?_) (fun h29 => ?_)
  rotate_left
  ·
   have h29p : r22.2 = 0 := of_decide_eq_true (bnot_false h29)
   replace hm := ite_yes hm h29p
   refine W.skip ?_
   refine hK27 _ _ ?_
   refine W.sr fun K30 hK30 => ?_
   refine zR 1 ?_
   refine zG ⟨b13, 0, none⟩ [(zp vb), (zi gw), (zi gi), (zi gb)] (cells_sub (hs26.heapAt 1 rfl) rfl) ?_
   refine zR 1 ?_
   obtain ⟨r31, h32, hm⟩ := bind_some hm
   have hs33 := St.f3 hs26
   refine zC22 hs33 (pwalk_walk (vb := vb) (xa := a20) (xc := c21) (A_ := kStr.row a20 c21 r22.1) (img := img) (l := l) (gw := gw) (gi := gi) (gb := gb) (xs := r22.1) (hA := fun h_ => (row_at h_)) (hm := h32) B _) fun w34 hs36 => ?_
   refine zE 4 (hK30 _ _ ?_)
   refine W.ret ?_
   obtain rfl := some_inj hm
   have hs37 := St.tk1 hs36
   refine ret_of (.tuple #[(zi r31.1), (zi r31.2)]) (by kernel_rfl) ⟨_, ⟨rfl, rfl⟩, hs37⟩
  have h29p : ¬ (r22.2 = 0) := of_decide_eq_false (bnot_true h29)
  replace hm := ite_no hm h29p
  refine W.sr fun K38 hK38 => ?_
  refine zE 3 (hK38 _ _ ?_)
  refine W.ret (ret_seq ?_)
  obtain rfl := some_inj hm
  have hs39 := St.f3 hs26
  have hs40 := St.tk1 hs39
  refine ret_of (.tuple #[(zi 0), (zi r22.2)]) (by kernel_rfl) ⟨_, ⟨rfl, rfl⟩, hs40⟩
 obtain ⟨h7p, hm⟩ := iN hm h7
 refine zC00 hs3 (popen_err (gw := gw) (gi := gi) (gb := gb) (hv := (hs3.entAt 1 rfl viewA_at)) (hN := h7p) B _) fun w41 hs43 => ?_
 refine zR 3 ?_
 refine zN [(.pointer none), (zi 0), (zi 0), (zi 0)] 89 hs43 fun b46 w44 hs45 => ?_
 refine zT 0 [(.pointer none), (zi 0), (zi 0), (zi 0)] [(.pointer none), (zi 0), (zi 0), (zi 0)] hs45 fun w47 hs49 => ?_
 refine zR 1 ?_
 obtain ⟨r50, h51, hm⟩ := bind_some hm
 replace h51 := some_inj h51
 refine ops_set 9 (v := .int .i64 r50) (Eq.trans (by kernel_rfl) (congrArg (Value.int .i64) h51)) ?_
 refine zD (hK6 _ _ ?_)
 refine W.seq fun K52 hK52 => ?_
 refine W.sr fun K53 hK53 => ?_
 refine zE 2 (hK53 _ _ ?_)
 refine W.cond (!decide (r50 = 0)) (by kernel_rfl) (fun h54 => ?_) (fun h54 => ?_)
 rotate_left
 ·
  have h54p : r50 = 0 := of_decide_eq_true (bnot_false h54)
  exact absurd h54p (fun e_ => (show ¬ ((if May gw gi gb then (8 : Int) else 1) = 0) by split <;> decide) (h51.trans e_))
 have h54p : ¬ (r50 = 0) := of_decide_eq_false (bnot_true h54)
 replace hm := ite_no hm h54p
 refine W.sr fun K55 hK55 => ?_
 refine zE 3 (hK55 _ _ ?_)
 refine W.ret (ret_seq ?_)
 obtain rfl := some_inj hm
 have hs56 := St.f2 hs49
 have hs57 := St.tk1 hs56
 refine ret_of (.tuple #[(zi 0), (zi r50)]) (by kernel_rfl) ⟨_, ⟨rfl, rfl⟩, hs57⟩
def pParent_J2 (r23 : List ByteArray × Int) (r36 : Int) (r42 : Int × Int) (p70 : Int) : Option (Int × ByteArray × Int) :=
 if p70 = 0 then (need (0 ≤ r36 ∧ r36 < (r23.1.length : Int)) <|
some (r42.1, (r23.1.getD r36.toNat ByteArray.empty), 0)) else (some (0, ByteArray.empty, p70))
def pParent_J1 (img : List Int) (l : List (Int × Int)) (gw : Int) (gi : Int) (gb : Int) (r23 : List ByteArray × Int) (p28 : Int) : Option (Int × ByteArray × Int) :=
 if p28 = 0 then (need (-9223372036854775808 ≤ ((r23.1.length : Int) - 1) ∧ ((r23.1.length : Int) - 1) ≤ 9223372036854775807) <|
(some ((r23.1.length : Int) - 1)).bind fun r36 =>
need (0 ≤ r36 ∧ r36 ≤ (r23.1.length : Int)) <|
(pwalk_M img l gw gi gb (r23.1.take r36.toNat)).bind fun r42 =>
if r42.2 = 0 then ((some (igetM img l gw gi gb r42.1)).bind fun r57 =>
if r57.2 = 0 then (if r57.1.k = 2 then (pParent_J2 r23 r36 r42 r57.2) else (pParent_J2 r23 r36 r42 10)) else (pParent_J2 r23 r36 r42 r57.2)) else (some (0, ByteArray.empty, r42.2))) else (some (0, ByteArray.empty, p28))
def pParent_M (img : List Int) (l : List (Int × Int)) (gw : Int) (gi : Int) (gb : Int) (tx_ : ByteArray) : Option (Int × ByteArray × Int) :=
 if May gw gi gb ∧ wordsOf gw gi gb ≤ (img.length : Int) then ((psplit_M tx_).bind fun r23 =>
if r23.2 = 0 then (if (r23.1.length : Int) = 0 then (pParent_J1 img l gw gi gb r23 13) else (pParent_J1 img l gw gi gb r23 r23.2)) else (pParent_J1 img l gw gi gb r23 r23.2)) else ((some (if May gw gi gb then (8 : Int) else 1)).bind fun r128 =>
if r128 = 0 then (none) else (some (0, ByteArray.empty, r128)))
theorem pParent_walk {img : List Int} {l : List (Int × Int)} {gw : Int} {gi : Int} {gb : Int} {tx_ : ByteArray} {vb : Nat} {r : Int × ByteArray × Int} (B : Nat) (w : World) (hm : pParent_M img l gw gi gb tx_ = some r) : Spec Tryz.prog 11 #[(zp vb), (.agg #[(zi gw), (zi gi), (zi gb)]), (.string tx_)] B w [viewA (ptr vb) img l] (fun v H' => v = (.tuple #[(zi r.1), (.string r.2.1), (zi r.2.2)]) ∧ H' = [viewA (ptr vb) img l]) := by
 refine spec_W Tryz.func11 rfl fun l0 hs => ?_
 unfold pParent_M at hm
 refine W.sr fun K1 hK1 => ?_
 refine zN [(zi gw), (zi gi), (zi gb)] 24 hs fun b4 w2 hs3 => ?_
 refine zE 3 (hK1 _ _ ?_)
 refine W.sr fun K7 hK7 => ?_
 refine zR 1 ?_
 refine zG ⟨b4, 0, none⟩ [(zi gw), (zi gi), (zi gb)] (cells_sub (hs3.heapAt 0 rfl) rfl) ?_
 rcases Bool.eq_false_or_eq_true (decide (May gw gi gb ∧ wordsOf gw gi gb ≤ (img.length : Int))) with h8 | h8
 ·
  obtain ⟨h8p, hm⟩ := iY hm h8
  refine zC00 hs3 (popen_ok (gw := gw) (gi := gi) (gb := gb) (hv := (hs3.entAt 1 rfl viewA_at)) (hP := h8p) B _) fun w9 hs11 => ?_
  refine zR 3 ?_
  refine zN [(.pointer none), (zi 0), (zi 0), (zi 0)] 89 hs11 fun b14 w12 hs13 => ?_
  refine zT 0 [(zp vb), (zi gw), (zi gi), (zi gb)] [(zp vb), (zi gw), (zi gi), (zi gb)] hs13 fun w15 hs17 => ?_
  refine zE 1 (hK7 _ _ ?_)
  refine W.seq fun K18 hK18 => ?_
  refine W.sr fun K19 hK19 => ?_
  refine zE 2 (hK19 _ _ ?_)
  refine W.cond_false false (by kernel_rfl) rfl ?_
  refine W.skip ?_
  refine hK18 _ _ ?_
  refine W.sr fun K20 hK20 => ?_
  refine zR 1 ?_
  obtain ⟨r23, h24, hm⟩ := bind_some hm
  refine ops_call0 hs17 (by kernel_rfl) (psplit_walk (tx_ := tx_) (hm := h24) B _) ?_
  rintro _ _ w25 ⟨a21, c22, rfl, rfl⟩ hs26
  have hs27 := St.ap1 hs26
  refine zE 5 (hK20 _ _ ?_)
  refine W.seq_join (fun s_ w_ => ∃ (p28 : Int), (∃ us, s_ = slots 75 [(0, (zp vb)), (4, (zp b4)), (8, (zi p28)), (9, (zp b14)), (10, (.slice a21 r23.1.length c22))] us) ∧ St B w l0 w_ [viewA (ptr vb) img l, zb b4 24 [(zi gw), (zi gi), (zi gb)], zb b14 89 [(zp vb), (zi gw), (zi gi), (zi gb)], kStr.row a21 c22 r23.1] ∧ pParent_J1 img l gw gi gb r23 p28 = some r) ?_ ?_
  ·
   rintro _ w29 ⟨p28, ⟨us, rfl⟩, hs30, hm⟩
   unfold pParent_J1 at hm
   refine W.seq fun K31 hK31 => ?_
   refine W.sr fun K32 hK32 => ?_
   refine zE 2 (hK32 _ _ ?_)
   refine W.cond (!decide (p28 = 0)) (by kernel_rfl) (fun h33 => ?_) (fun h33 => ?_)
   rotate_left
   ·
    have h33p : p28 = 0 := of_decide_eq_true (bnot_false h33)
    replace hm := ite_yes hm h33p
    refine W.skip ?_
    refine hK31 _ _ ?_
    refine W.sr fun K34 hK34 => ?_
    refine zR 2 ?_
    obtain ⟨h35, hm⟩ := need_some hm
    refine zI _ (wrap_i64 h35.1 h35.2) ?_
    refine zR 1 ?_
    obtain ⟨r36, h37, hm⟩ := bind_some hm
    replace h37 := some_inj h37
    refine ops_set 11 (v := .int .i64 r36) (Eq.trans (by kernel_rfl) (congrArg (Value.int .i64) h37)) ?_
    refine zD (hK34 _ _ ?_)
    refine W.seq fun K38 hK38 => ?_
    have hs39 := hs30.drew
    refine W.regionD [(0, 0), (0, 0), (3, 3), (0, 0), (8, 8), (20, 20), (32, 32), (64, 64), (64, 64), (255, 128), (1023, 256)] (fun w_ => St B w l0 w_ [viewA (ptr vb) img l, zb b4 24 [(zi gw), (zi gi), (zi gb)], zb b14 89 [(zp vb), (zi gw), (zi gi), (zi gb)], kStr.row a21 c22 r23.1]) (by kernel_rfl) hs39 ?_
    refine zA (.slice a21 r23.1.length c22) 0 hs39 ?_
    refine zA (zi r36) 1 hs39 ?_
    obtain ⟨h40, hm⟩ := need_some hm
    have hc41 := St.kcap kStr hs39 3 rfl
    refine any_R 2 (by kernel_rfl) (fun _ hS_ => runs_prefixL (a := a21) (n := r23.1.length) (c := c22) (z := r36) (size := 1) r36.toNat (r23.1.take r36.toNat).length (le_take_len (le_toNat h40)) (nat_of h40.1) (le_toNat h40) hc41 (by kernel_rfl)) hs39 ?_
    refine any_R 3 (by kernel_rfl) (fun _ hS_ => runs_loadAgg (ad := ⟨b14, 0, none⟩) (cs := [(zp vb), (zi gw), (zi gi), (zi gb)]) (by kernel_rfl) (cells_sub (hS_.heapAt 2 rfl) rfl)) hs39 ?_
    refine zA (.func (.func 30) #[(.agg #[(zp vb), (zi gw), (zi gi), (zi gb)])] #[]) 4 hs39 ?_
    refine any_step 5 (by kernel_rfl) (by kernel_rfl) ?_
    obtain ⟨r42, h43, hm⟩ := bind_some hm
    have hs44 := St.f3 hs39
    have hs45 := St.f1 hs44
    refine zC22 hs45 (pwalk_walk (vb := vb) (xa := a21) (xc := c22) (A_ := kStr.row a21 c22 r23.1) (img := img) (l := l) (gw := gw) (gi := gi) (gb := gb) (xs := (r23.1.take r36.toNat)) (hA := fun h_ => (cells_take kStr r36.toNat (row_at h_))) (hm := h43) B _) fun w46 hs48 => ?_
    have hs49 := St.f1 hs48
    have hs50 := St.f3 hs49
    have hs51 := St.f3 hs50
    have hs52 := St.f3 hs51
    refine ops_done (by kernel_rfl) ⟨hs52, ?_⟩
    refine zA (.tuple #[(zi r42.1), (zi r42.2)]) 6 hs52 ?_
    refine zA (zi r42.1) 7 hs52 ?_
    refine zA (zi r42.2) 8 hs52 ?_
    refine zA (zi r42.1) 9 hs52 ?_
    refine zA (zi r42.2) 10 hs52 ?_
    refine any_done (by kernel_rfl) ?_
    refine hK38 _ _ ?_
    refine W.seq fun K53 hK53 => ?_
    refine W.sr fun K54 hK54 => ?_
    refine zE 2 (hK54 _ _ ?_)
    refine W.cond (!decide (r42.2 = 0)) (by kernel_rfl) (fun h55 => ?_) (fun h55 => ?_)
    rotate_left
    ·
     have h55p : r42.2 = 0 := of_decide_eq_true (bnot_false h55)
     replace hm := ite_yes hm h55p
     refine W.skip ?_
     refine hK53 _ _ ?_
     refine W.sr fun K56 hK56 => ?_
     refine zR 1 ?_
     refine zG ⟨b4, 0, none⟩ [(zi gw), (zi gi), (zi gb)] (cells_sub (hs48.heapAt 2 rfl) rfl) ?_
     refine zR 1 ?_
     obtain ⟨r57, h58, hm⟩ := bind_some hm
     replace h58 := some_inj h58
     refine ops_call0 hs48 (by kernel_rfl) (ig_spec (gw := gw) (gi := gi) (gb := gb) (n_ := r42.1) (hv := (hs48.entAt 0 rfl viewA_at)) B _) ?_
     rintro _ _ w59 ⟨hv61, hH62⟩ hs60
     rw [h58] at hv61
     try rw [h58] at hH62
     subst hv61 hH62
     have hs63 := St.ap0 hs60
     refine zR 3 ?_
     refine zN [(zu 0), (zu 0), (zu 0), (zu 0), (zu 0), (zu 0), (zu 0), (zu 0), (zu 0), (zu 0)] 65 hs63 fun b66 w64 hs65 => ?_
     refine zT 0 [(zu r57.1.k), (zu r57.1.l), (zu r57.1.o), (zu r57.1.s), (zu r57.1.a), (zu r57.1.b), (zu r57.1.c), (zu r57.1.d), (zu r57.1.e), (zu r57.1.m)] [(zu r57.1.k), (zu r57.1.l), (zu r57.1.o), (zu r57.1.s), (zu r57.1.a), (zu r57.1.b), (zu r57.1.c), (zu r57.1.d), (zu r57.1.e), (zu r57.1.m)] hs65 fun w67 hs69 => ?_
     refine zE 1 (hK56 _ _ ?_)
     refine W.seq_join (fun s_ w_ => ∃ (p70 : Int), (∃ us, s_ = slots 75 [(8, (zi p70)), (10, (.slice a21 r23.1.length c22)), (11, (zi r36)), (12, (zi r42.1))] us) ∧ St B w l0 w_ [kStr.row a21 c22 r23.1, zb b66 65 [(zu r57.1.k), (zu r57.1.l), (zu r57.1.o), (zu r57.1.s), (zu r57.1.a), (zu r57.1.b), (zu r57.1.c), (zu r57.1.d), (zu r57.1.e), (zu r57.1.m)], viewA (ptr vb) img l, zb b4 24 [(zi gw), (zi gi), (zi gb)], zb b14 89 [(zp vb), (zi gw), (zi gi), (zi gb)]] ∧ pParent_J2 r23 r36 r42 p70 = some r) ?_ ?_
     ·
      rintro _ w71 ⟨p70, ⟨us, rfl⟩, hs72, hm⟩
      unfold pParent_J2 at hm
      refine W.seq fun K73 hK73 => ?_
      refine W.sr fun K74 hK74 => ?_
      refine zE 2 (hK74 _ _ ?_)
      refine W.cond (!decide (p70 = 0)) (by kernel_rfl) (fun h75 => ?_) (fun h75 => ?_)
      rotate_left
      ·
       have h75p : p70 = 0 := of_decide_eq_true (bnot_false h75)
       replace hm := ite_yes hm h75p
       refine W.skip ?_
       refine hK73 _ _ ?_
       refine W.seq fun K76 hK76 => ?_
       have hs77 := hs72.drew
       refine W.regionD [(0, 0), (0, 0), (0, 0), (6, 6), (8, 8), (1, 1), (63, 16), (127, 0)] (fun w_ => St B w l0 w_ [kStr.row a21 c22 r23.1, zb b66 65 [(zu r57.1.k), (zu r57.1.l), (zu r57.1.o), (zu r57.1.s), (zu r57.1.a), (zu r57.1.b), (zu r57.1.c), (zu r57.1.d), (zu r57.1.e), (zu r57.1.m)], viewA (ptr vb) img l, zb b4 24 [(zi gw), (zi gi), (zi gb)], zb b14 89 [(zp vb), (zi gw), (zi gi), (zi gb)]]) (by kernel_rfl) hs77 ?_
       refine zA (zi r42.1) 0 hs77 ?_
       refine zA (.slice a21 r23.1.length c22) 1 hs77 ?_
       refine zA (zi r36) 2 hs77 ?_
       obtain ⟨h79, hm⟩ := need_some hm
       have hk78 := lt_toNat h79
       refine any_R 3 (by kernel_rfl) (fun _ hS_ => runs_index (a := a21) (n := r23.1.length) (z := r36) (size := 1) r36.toNat (nat_of h79.1) hk78 (kStr.addr (St.kcells kStr hs77 0 rfl) hk78) (by kernel_rfl)) hs77 ?_
       refine zB 4 ((adr a21 (r36.toNat * 1)).add 0) (.string (r23.1.getD r36.toNat ByteArray.empty)) (fun _ hS_ => (kStr.at (St.kcells kStr hS_ 0 rfl) hk78 ByteArray.empty 0 rfl)) hs77 ?_
       refine zA (zi r42.1) 5 hs77 ?_
       refine zA (.string (r23.1.getD r36.toNat ByteArray.empty)) 6 hs77 ?_
       refine zA (zi 0) 7 hs77 ?_
       refine any_done (by kernel_rfl) ?_
       refine hK76 _ _ ?_
       refine W.ret ?_
       obtain rfl := some_inj hm
       have hs80 := St.f2 hs77
       have hs81 := St.tk1 hs80
       refine ret_of (.tuple #[(zi r42.1), (.string (r23.1.getD r36.toNat ByteArray.empty)), (zi 0)]) (by kernel_rfl) ⟨_, ⟨rfl, rfl⟩, hs81⟩
      have h75p : ¬ (p70 = 0) := of_decide_eq_false (bnot_true h75)
      replace hm := ite_no hm h75p
      refine W.sr fun K82 hK82 => ?_
      refine zE 4 (hK82 _ _ ?_)
      refine W.ret (ret_seq ?_)
      obtain rfl := some_inj hm
      have hs83 := St.f2 hs72
      have hs84 := St.tk1 hs83
      refine ret_of (.tuple #[(zi 0), (.string ByteArray.empty), (zi p70)]) (by kernel_rfl) ⟨_, ⟨rfl, rfl⟩, hs84⟩
     refine W.sr fun K85 hK85 => ?_
     refine zR 3 ?_
     rcases Bool.eq_false_or_eq_true (decide (r57.2 = 0)) with h86 | h86
     ·
      obtain ⟨h86p, hm⟩ := iY hm h86
      refine zS 62 h86 ?_
      refine zS 61 h86 ?_
      refine zR 1 ?_
      refine zL ⟨b66, 0, none⟩ (zu r57.1.k) (hs69.cellAt 0 rfl rfl) ?_
      refine zE 2 (hK85 _ _ ?_)
      refine W.cond (!decide (r57.1.k = 2)) (by kernel_rfl) (fun h87 => ?_) (fun h87 => ?_)
      rotate_left
      ·
       have h87p : r57.1.k = 2 := of_decide_eq_true (bnot_false h87)
       replace hm := ite_yes hm h87p
       refine W.skip ?_
       have hs88 := St.f4 hs69
       have hs89 := St.f4 hs88
       have hs90 := St.f3 hs89
       have hs91 := St.f3 hs90
       have hs92 := St.f4 hs91
       exact ⟨r57.2, slots_intro _ (by kernel_rfl), hs92, hm⟩
      have h87p : ¬ (r57.1.k = 2) := of_decide_eq_false (bnot_true h87)
      replace hm := ite_no hm h87p
      refine W.region ?_
      refine zE 1 ?_
      have hs93 := St.f4 hs69
      have hs94 := St.f4 hs93
      have hs95 := St.f3 hs94
      have hs96 := St.f3 hs95
      have hs97 := St.f4 hs96
      exact ⟨10, slots_intro _ (by kernel_rfl), hs97, hm⟩
     obtain ⟨h86p, hm⟩ := iN hm h86
     refine zS 62 h86 ?_
     refine zS 61 h86 ?_
     refine zE 4 (hK85 _ _ ?_)
     refine W.cond_false false (by kernel_rfl) rfl ?_
     refine W.skip ?_
     have hs98 := St.f4 hs69
     have hs99 := St.f4 hs98
     have hs100 := St.f3 hs99
     have hs101 := St.f3 hs100
     have hs102 := St.f4 hs101
     exact ⟨r57.2, slots_intro _ (by kernel_rfl), hs102, hm⟩
    have h55p : ¬ (r42.2 = 0) := of_decide_eq_false (bnot_true h55)
    replace hm := ite_no hm h55p
    refine W.sr fun K103 hK103 => ?_
    refine zE 4 (hK103 _ _ ?_)
    refine W.ret (ret_seq ?_)
    obtain rfl := some_inj hm
    have hs104 := St.tk1 hs48
    refine ret_of (.tuple #[(zi 0), (.string ByteArray.empty), (zi r42.2)]) (by kernel_rfl) ⟨_, ⟨rfl, rfl⟩, hs104⟩
   have h33p : ¬ (p28 = 0) := of_decide_eq_false (bnot_true h33)
   replace hm := ite_no hm h33p
   refine W.sr fun K105 hK105 => ?_
   refine zE 4 (hK105 _ _ ?_)
   refine W.ret (ret_seq ?_)
   obtain rfl := some_inj hm
   have hs106 := St.tk1 hs30
   refine ret_of (.tuple #[(zi 0), (.string ByteArray.empty), (zi p28)]) (by kernel_rfl) ⟨_, ⟨rfl, rfl⟩, hs106⟩
  refine W.sr fun K107 hK107 => ?_
  refine zR 3 ?_
  rcases Bool.eq_false_or_eq_true (decide (r23.2 = 0)) with h108 | h108
  ·
   obtain ⟨h108p, hm⟩ := iY hm h108
   refine zS 30 h108 ?_
   refine zS 29 h108 ?_
   refine zE 4 (hK107 _ _ ?_)
   refine W.cond (decide ((r23.1.length : Int) = 0)) (by kernel_rfl) (fun h109 => ?_) (fun h109 => ?_)
   ·
    obtain ⟨h109p, hm⟩ := iY hm h109
    refine W.region ?_
    refine zE 1 ?_
    have hs110 := St.f1 hs27
    have hs111 := St.f2 hs110
    have hs112 := St.f3 hs111
    exact ⟨13, slots_intro _ (by kernel_rfl), hs112, hm⟩
   obtain ⟨h109p, hm⟩ := iN hm h109
   refine W.skip ?_
   have hs113 := St.f1 hs27
   have hs114 := St.f2 hs113
   have hs115 := St.f3 hs114
   exact ⟨r23.2, slots_intro _ (by kernel_rfl), hs115, hm⟩
  obtain ⟨h108p, hm⟩ := iN hm h108
  refine zS 30 h108 ?_
  refine zS 29 h108 ?_
  refine zE 4 (hK107 _ _ ?_)
  refine W.cond_false false (by kernel_rfl) rfl ?_
  refine W.skip ?_
  have hs116 := St.f1 hs27
  have hs117 := St.f2 hs116
  have hs118 := St.f3 hs117
  exact ⟨r23.2, slots_intro _ (by kernel_rfl), hs118, hm⟩
 obtain ⟨h8p, hm⟩ := iN hm h8
 refine zC00 hs3 (popen_err (gw := gw) (gi := gi) (gb := gb) (hv := (hs3.entAt 1 rfl viewA_at)) (hN := h8p) B _) fun w119 hs121 => ?_
 refine zR 3 ?_
 refine zN [(.pointer none), (zi 0), (zi 0), (zi 0)] 89 hs121 fun b124 w122 hs123 => ?_
 refine zT 0 [(.pointer none), (zi 0), (zi 0), (zi 0)] [(.pointer none), (zi 0), (zi 0), (zi 0)] hs123 fun w125 hs127 => ?_
 refine zR 1 ?_
 obtain ⟨r128, h129, hm⟩ := bind_some hm
 replace h129 := some_inj h129
 refine ops_set 8 (v := .int .i64 r128) (Eq.trans (by kernel_rfl) (congrArg (Value.int .i64) h129)) ?_
 refine zD (hK7 _ _ ?_)
 refine W.seq fun K130 hK130 => ?_
 refine W.sr fun K131 hK131 => ?_
 refine zE 2 (hK131 _ _ ?_)
 refine W.cond (!decide (r128 = 0)) (by kernel_rfl) (fun h132 => ?_) (fun h132 => ?_)
 rotate_left
 ·
  have h132p : r128 = 0 := of_decide_eq_true (bnot_false h132)
  exact absurd h132p (fun e_ => (show ¬ ((if May gw gi gb then (8 : Int) else 1) = 0) by split <;> decide) (h129.trans e_))
 have h132p : ¬ (r128 = 0) := of_decide_eq_false (bnot_true h132)
 replace hm := ite_no hm h132p
 refine W.sr fun K133 hK133 => ?_
 refine zE 4 (hK133 _ _ ?_)
 refine W.ret (ret_seq ?_)
 obtain rfl := some_inj hm
 have hs134 := St.f2 hs127
 have hs135 := St.tk1 hs134
 refine ret_of (.tuple #[(zi 0), (.string ByteArray.empty), (zi r128)]) (by kernel_rfl) ⟨_, ⟨rfl, rfl⟩, hs135⟩
end Go.Proofs.YtmmclabkkigiaaaGreat

set_option maxRecDepth 20000
set_option maxHeartbeats 4000000
namespace Go.Proofs.YtmmclabkkigiaaaGreat
open Go Go.RowKit
def pWithin_J2 (a_ : Int) (k27 : (Int × Int) → Option (Bool × Int)) (p25 : Int) (p26 : Int) (r38 : Nd × Int) (p52 : Bool) : Option (Bool × Int) :=
 if p52 = true then (if r38.2 = 0 then (some (decide (a_ = p25), r38.2)) else (some (false, r38.2))) else (need (-9223372036854775808 ≤ r38.1.m ∧ r38.1.m ≤ 9223372036854775807) <|
need (-9223372036854775808 ≤ (p26 + 1) ∧ (p26 + 1) ≤ 9223372036854775807) <|
k27 (r38.1.m, (p26 + 1)))
def pWithin_B0 (img : List Int) (l : List (Int × Int)) (gw : Int) (gi : Int) (gb : Int) (a_ : Int) (k27 : (Int × Int) → Option (Bool × Int)) (p25 : Int) (p26 : Int) : Option (Bool × Int) :=
 if p26 < (gi + 1) then ((some (igetM img l gw gi gb p25)).bind fun r38 =>
if r38.2 = 0 then (if a_ = p25 then (pWithin_J2 a_ k27 p25 p26 r38 true) else (pWithin_J2 a_ k27 p25 p26 r38 (decide (r38.1.m = 0)))) else (pWithin_J2 a_ k27 p25 p26 r38 true)) else (some (false, 4))
def pWithin_M (img : List Int) (l : List (Int × Int)) (gw : Int) (gi : Int) (gb : Int) (a_ : Int) (b_ : Int) : Option (Bool × Int) :=
 (some (igetM img l gw gi gb a_)).bind fun r7 =>
if r7.2 = 0 then (need (-9223372036854775808 ≤ (gi + 1) ∧ (gi + 1) ≤ 9223372036854775807) <|
iter (fun k_ s_ => pWithin_B0 img l gw gi gb a_ k_ s_.1 s_.2) FUEL (b_, 0)) else (some (false, r7.2))
theorem pWithin_walk {img : List Int} {l : List (Int × Int)} {gw : Int} {gi : Int} {gb : Int} {a_ : Int} {b_ : Int} {vb : Nat} {r : Bool × Int} (B : Nat) (w : World) (hm : pWithin_M img l gw gi gb a_ b_ = some r) : Spec Tryz.prog 13 #[(zp vb), (.agg #[(zi gw), (zi gi), (zi gb)]), (zi a_), (zi b_)] B w [viewA (ptr vb) img l] (fun v H' => v = (.tuple #[(.bool r.1), (zi r.2)]) ∧ H' = [viewA (ptr vb) img l]) := by
 refine spec_W Tryz.func13 rfl fun l0 hs => ?_
 unfold pWithin_M at hm
 refine W.sr fun K1 hK1 => ?_
 refine zN [(zi gw), (zi gi), (zi gb)] 24 hs fun b4 w2 hs3 => ?_
 refine zE 2 (hK1 _ _ ?_)
 refine W.seq fun K5 hK5 => ?_
 refine W.sr fun K6 hK6 => ?_
 refine zR 1 ?_
 refine zG ⟨b4, 0, none⟩ [(zi gw), (zi gi), (zi gb)] (cells_sub (hs3.heapAt 0 rfl) rfl) ?_
 refine zR 1 ?_
 obtain ⟨r7, h8, hm⟩ := bind_some hm
 replace h8 := some_inj h8
 refine ops_call0 hs3 (by kernel_rfl) (ig_spec (gw := gw) (gi := gi) (gb := gb) (n_ := a_) (hv := (hs3.entAt 1 rfl viewA_at)) B _) ?_
 rintro _ _ w9 ⟨hv11, hH12⟩ hs10
 rw [h8] at hv11
 try rw [h8] at hH12
 subst hv11 hH12
 have hs13 := St.ap0 hs10
 refine zR 3 ?_
 refine zN [(zu 0), (zu 0), (zu 0), (zu 0), (zu 0), (zu 0), (zu 0), (zu 0), (zu 0), (zu 0)] 65 hs13 fun b16 w14 hs15 => ?_
 refine zT 0 [(zu r7.1.k), (zu r7.1.l), (zu r7.1.o), (zu r7.1.s), (zu r7.1.a), (zu r7.1.b), (zu r7.1.c), (zu r7.1.d), (zu r7.1.e), (zu r7.1.m)] [(zu r7.1.k), (zu r7.1.l), (zu r7.1.o), (zu r7.1.s), (zu r7.1.a), (zu r7.1.b), (zu r7.1.c), (zu r7.1.d), (zu r7.1.e), (zu r7.1.m)] hs15 fun w17 hs19 => ?_
 refine zE 1 (hK6 _ _ ?_)
 refine W.sr fun K20 hK20 => ?_
 refine zE 2 (hK20 _ _ ?_)
 refine W.cond (!decide (r7.2 = 0)) (by kernel_rfl) (fun h21 => ?_) (fun h21 => ?_)
 rotate_left
 ·
  have h21p : r7.2 = 0 := of_decide_eq_true (bnot_false h21)
  replace hm := ite_yes hm h21p
  refine W.skip ?_
  refine hK5 _ _ ?_
  refine W.seq fun K22 hK22 => ?_
  refine W.sr fun K23 hK23 => ?_
  refine zR 1 ?_
  refine zL ⟨b4, 1, none⟩ (zi gi) (hs19.cellAt 1 rfl rfl) ?_
  obtain ⟨h24, hm⟩ := need_some hm
  refine zI _ (wrap_i64 h24.1 h24.2) ?_
  refine zE 1 (hK23 _ _ ?_)
  refine W.block ?_
  have hs31 := St.f1 hs19
  have hs32 := St.f2 hs31
  refine W.loop_iter (G := Int × Int) (σ := Int × Int) (fun | (p25, p26) => (p25, p26)) (fun | (p25, p26), s_, w_ => (∃ us, s_ = slots 60 [(0, (zp vb)), (2, (zi a_)), (3, (zi p25)), (5, (zp b4)), (26, (zi (gi + 1))), (27, (zi p26))] us) ∧ St B w l0 w_ [viewA (ptr vb) img l, zb b4 24 [(zi gw), (zi gi), (zi gb)], zb b16 65 [(zu r7.1.k), (zu r7.1.l), (zu r7.1.o), (zu r7.1.s), (zu r7.1.a), (zu r7.1.b), (zu r7.1.c), (zu r7.1.d), (zu r7.1.e), (zu r7.1.m)]]) (b_, 0) ⟨slots_intro _ (by kernel_rfl), hs32⟩ hm ?_
  rintro k27 ih28 ⟨p25, p26⟩ _ w29 ⟨⟨us, rfl⟩, hs30⟩ hm
  replace hm : pWithin_B0 img l gw gi gb a_ k27 p25 p26 = some r := hm
  unfold pWithin_B0 at hm
  refine W.sr fun K33 hK33 => ?_
  refine zE 1 (hK33 _ _ ?_)
  refine W.seq fun K34 hK34 => ?_
  refine W.cond (decide (p26 < (gi + 1))) (by kernel_rfl) (fun h35 => ?_) (fun h35 => ?_)
  ·
   obtain ⟨h35p, hm⟩ := iY hm h35
   refine W.skip ?_
   refine hK34 _ _ ?_
   refine W.seq fun K36 hK36 => ?_
   refine W.block ?_
   refine W.sr fun K37 hK37 => ?_
   refine zR 1 ?_
   refine zG ⟨b4, 0, none⟩ [(zi gw), (zi gi), (zi gb)] (cells_sub (hs30.heapAt 1 rfl) rfl) ?_
   refine zR 1 ?_
   obtain ⟨r38, h39, hm⟩ := bind_some hm
   replace h39 := some_inj h39
   refine ops_call0 hs30 (by kernel_rfl) (ig_spec (gw := gw) (gi := gi) (gb := gb) (n_ := p25) (hv := (hs30.entAt 0 rfl viewA_at)) B _) ?_
   rintro _ _ w40 ⟨hv42, hH43⟩ hs41
   rw [h39] at hv42
   try rw [h39] at hH43
   subst hv42 hH43
   have hs44 := St.ap0 hs41
   refine zR 3 ?_
   refine zN [(zu 0), (zu 0), (zu 0), (zu 0), (zu 0), (zu 0), (zu 0), (zu 0), (zu 0), (zu 0)] 65 hs44 fun b47 w45 hs46 => ?_
   refine zT 0 [(zu r38.1.k), (zu r38.1.l), (zu r38.1.o), (zu r38.1.s), (zu r38.1.a), (zu r38.1.b), (zu r38.1.c), (zu r38.1.d), (zu r38.1.e), (zu r38.1.m)] [(zu r38.1.k), (zu r38.1.l), (zu r38.1.o), (zu r38.1.s), (zu r38.1.a), (zu r38.1.b), (zu r38.1.c), (zu r38.1.d), (zu r38.1.e), (zu r38.1.m)] hs46 fun w48 hs50 => ?_
   refine zE 1 (hK37 _ _ ?_)
   refine W.seq fun K51 hK51 => ?_
   refine W.seq_join (fun s_ w_ => ∃ (p52 : Bool), (∃ us, s_ = slots 60 [(0, (zp vb)), (2, (zi a_)), (3, (zi p25)), (5, (zp b4)), (12, (zp b47)), (13, (zi r38.2)), (26, (zi (gi + 1))), (27, (zi p26)), (47, (.bool p52))] us) ∧ St B w l0 w_ [viewA (ptr vb) img l, zb b4 24 [(zi gw), (zi gi), (zi gb)], zb b47 65 [(zu r38.1.k), (zu r38.1.l), (zu r38.1.o), (zu r38.1.s), (zu r38.1.a), (zu r38.1.b), (zu r38.1.c), (zu r38.1.d), (zu r38.1.e), (zu r38.1.m)], zb b16 65 [(zu r7.1.k), (zu r7.1.l), (zu r7.1.o), (zu r7.1.s), (zu r7.1.a), (zu r7.1.b), (zu r7.1.c), (zu r7.1.d), (zu r7.1.e), (zu r7.1.m)]] ∧ pWithin_J2 a_ k27 p25 p26 r38 p52 = some r) ?_ ?_
   ·
    rintro _ w53 ⟨p52, ⟨us, rfl⟩, hs54, hm⟩
    unfold pWithin_J2 at hm
    refine W.cond p52 (by kernel_rfl) (fun h55 => ?_) (fun h55 => ?_)
    ·
     have h55p : p52 = true := h55
     replace hm := ite_yes hm h55p
     refine W.sr fun K56 hK56 => ?_
     refine zR 3 ?_
     rcases Bool.eq_false_or_eq_true (decide (r38.2 = 0)) with h57 | h57
     ·
      obtain ⟨h57p, hm⟩ := iY hm h57
      refine zS 50 h57 ?_
      refine zS 49 h57 ?_
      refine zE 7 (hK56 _ _ ?_)
      refine W.ret (ret_seq (ret_block (ret_seq (ret_seq (ret_block (ret_seq ?_))))))
      obtain rfl := some_inj hm
      have hs58 := St.tk1 hs54
      refine ret_of (.tuple #[(.bool (decide (a_ = p25))), (zi r38.2)]) (by kernel_rfl) ⟨_, ⟨rfl, rfl⟩, hs58⟩
     obtain ⟨h57p, hm⟩ := iN hm h57
     refine zS 50 h57 ?_
     refine zS 49 h57 ?_
     refine zE 7 (hK56 _ _ ?_)
     refine W.ret (ret_seq (ret_block (ret_seq (ret_seq (ret_block (ret_seq ?_))))))
     obtain rfl := some_inj hm
     have hs59 := St.tk1 hs54
     refine ret_of (.tuple #[(.bool false), (zi r38.2)]) (by kernel_rfl) ⟨_, ⟨rfl, rfl⟩, hs59⟩
    have h55p : ¬ (p52 = true) := ne_true_of_eq_false h55
    replace hm := ite_no hm h55p
    refine W.skip ?_
    refine hK51 _ _ ?_
    refine W.region ?_
    refine zR 1 ?_
    refine zL ⟨b47, 9, none⟩ (zu r38.1.m) (hs54.cellAt 2 rfl rfl) ?_
    obtain ⟨h60, hm⟩ := need_some hm
    refine zI _ (wrap_i64 h60.1 h60.2) ?_
    refine zE 1 ?_
    refine normal_block ?_
    refine hK36 _ _ ?_
    refine W.region ?_
    obtain ⟨h61, hm⟩ := need_some hm
    refine zI _ (wrap_i64 h61.1 h61.2) ?_
    refine zE 1 ?_
    have hs62 := St.f3 hs54
    have hs63 := St.f2 hs62
    have hs64 := St.f2 hs63
    have hs65 := St.tk3 hs64
    refine loopAt_next ?_
    exact ih28 (r38.1.m, (p26 + 1)) _ _ ⟨slots_intro _ (by kernel_rfl), hs65⟩ hm
   refine W.region ?_
   refine zR 3 ?_
   rcases Bool.eq_false_or_eq_true (!decide (r38.2 = 0)) with h66 | h66
   rotate_left
   ·
    have h66p : r38.2 = 0 := of_decide_eq_true (bnot_false h66)
    replace hm := ite_yes hm h66p
    refine zS 38 h66 ?_
    refine zS 37 h66 ?_
    refine zR 5 ?_
    rcases Bool.eq_false_or_eq_true (decide (a_ = p25)) with h67 | h67
    ·
     obtain ⟨h67p, hm⟩ := iY hm h67
     refine zS 43 h67 ?_
     refine zS 41 h67 ?_
     refine zS 42 h67 ?_
     refine zE 4 ?_
     have hs68 := St.f3 hs50
     have hs69 := St.f1 hs68
     have hs70 := St.f3 hs69
     have hs71 := St.f3 hs70
     exact ⟨true, slots_intro _ (by kernel_rfl), hs71, hm⟩
    obtain ⟨h67p, hm⟩ := iN hm h67
    refine zS 43 h67 ?_
    refine zS 41 h67 ?_
    refine zS 42 h67 ?_
    refine zR 1 ?_
    refine zL ⟨b47, 9, none⟩ (zu r38.1.m) (hs50.cellAt 0 rfl rfl) ?_
    refine zE 2 ?_
    have hs72 := St.f3 hs50
    have hs73 := St.f1 hs72
    have hs74 := St.f3 hs73
    have hs75 := St.f3 hs74
    exact ⟨(decide (r38.1.m = 0)), slots_intro _ (by kernel_rfl), hs75, hm⟩
   have h66p : ¬ (r38.2 = 0) := of_decide_eq_false (bnot_true h66)
   replace hm := ite_no hm h66p
   refine zS 38 h66 ?_
   refine zS 37 h66 ?_
   refine zE 9 ?_
   have hs76 := St.f3 hs50
   have hs77 := St.f1 hs76
   have hs78 := St.f3 hs77
   have hs79 := St.f3 hs78
   exact ⟨true, slots_intro _ (by kernel_rfl), hs79, hm⟩
  obtain ⟨h35p, hm⟩ := iN hm h35
  refine W.exit (exit_seq (exit_seq (exit_here ?_)))
  refine hK22 _ _ ?_
  refine W.sr fun K80 hK80 => ?_
  refine zE 2 (hK80 _ _ ?_)
  refine W.ret ?_
  obtain rfl := some_inj hm
  have hs81 := St.tk1 hs30
  refine ret_of (.tuple #[(.bool false), (zi 4)]) (by kernel_rfl) ⟨_, ⟨rfl, rfl⟩, hs81⟩
 have h21p : ¬ (r7.2 = 0) := of_decide_eq_false (bnot_true h21)
 replace hm := ite_no hm h21p
 refine W.sr fun K82 hK82 => ?_
 refine zE 3 (hK82 _ _ ?_)
 refine W.ret (ret_seq ?_)
 obtain rfl := some_inj hm
 have hs83 := St.f2 hs19
 have hs84 := St.tk1 hs83
 refine ret_of (.tuple #[(.bool false), (zi r7.2)]) (by kernel_rfl) ⟨_, ⟨rfl, rfl⟩, hs84⟩
end Go.Proofs.YtmmclabkkigiaaaGreat

set_option maxRecDepth 20000
namespace Go.Proofs.YtmmclabkkigiaaaGreat
open Go Go.RowKit
def rsame16_B0 (xs : List ByteArray) (ys : List ByteArray) (k8 : Int → Option (Bool)) (p7 : Int) : Option (Bool) :=
 if p7 < (xs.length : Int) then (need (0 ≤ p7 ∧ p7 < (xs.length : Int)) <|
need (0 ≤ p7 ∧ p7 < (ys.length : Int)) <|
if ((xs.getD p7.toNat ByteArray.empty).toList == (ys.getD p7.toNat ByteArray.empty).toList) = true then (need (-9223372036854775808 ≤ (p7 + 1) ∧ (p7 + 1) ≤ 9223372036854775807) <|
k8 (p7 + 1)) else (some false)) else (some true)
def rsame16_M (xs : List ByteArray) (ys : List ByteArray) : Option (Bool) :=
 if (xs.length : Int) = (ys.length : Int) then (iter (fun k_ s_ => rsame16_B0 xs ys k_ s_) FUEL 0) else (some false)
theorem rsame16_walk {xs : List ByteArray} {ys : List ByteArray} {xa ya : Option Addr} {xc yc : Nat} {r : Bool} (B : Nat) (w : World) (hx : CellsAt xa (kStr.cells xs) w) (hy : CellsAt ya (kStr.cells ys) w) (hm : rsame16_M xs ys = some r) : Spec Tryz.prog 22 #[(.slice xa xs.length xc), (.slice ya ys.length yc)] B w [] (fun v H' => v = .bool r ∧ H' = []) := by
 refine spec_Q Tryz.func22 rfl fun hs => ?_
 unfold rsame16_M at hm
 refine W.sr fun K1 hK1 => ?_
 refine zE 1 (hK1 _ _ ?_)
 refine W.seq fun K2 hK2 => ?_
 refine W.sr fun K3 hK3 => ?_
 refine zE 5 (hK3 _ _ ?_)
 refine W.cond (!decide ((xs.length : Int) = (ys.length : Int))) (by kernel_rfl) (fun h4 => ?_) (fun h4 => ?_)
 rotate_left
 ·
  have h4p : (xs.length : Int) = (ys.length : Int) := of_decide_eq_true (bnot_false h4)
  replace hm := ite_yes hm h4p
  refine W.skip ?_
  refine hK2 _ _ ?_
  refine W.seq fun K5 hK5 => ?_
  refine W.sr fun K6 hK6 => ?_
  refine zE 1 (hK6 _ _ ?_)
  refine W.block ?_
  refine W.loop_iter (G := Int) (σ := Int) (fun | p7 => p7) (fun | p7, s_, w_ => (∃ us, s_ = slots 26 [(0, (.slice xa xs.length xc)), (1, (.slice ya ys.length yc)), (5, (zi p7))] us) ∧ St B w [] w_ []) 0 ⟨slots_intro _ (by kernel_rfl), hs⟩ hm ?_
  rintro k8 ih9 p7 _ w10 ⟨⟨us, rfl⟩, hs11⟩ hm
  replace hm : rsame16_B0 xs ys k8 p7 = some r := hm
  unfold rsame16_B0 at hm
  refine W.seq fun K12 hK12 => ?_
  refine W.sr fun K13 hK13 => ?_
  refine zE 4 (hK13 _ _ ?_)
  refine W.cond (decide (p7 < (xs.length : Int))) (by kernel_rfl) (fun h14 => ?_) (fun h14 => ?_)
  ·
   obtain ⟨h14p, hm⟩ := iY hm h14
   refine W.skip ?_
   refine hK12 _ _ ?_
   refine W.seq fun K15 hK15 => ?_
   refine W.block ?_
   refine W.seq fun K16 hK16 => ?_
   have hs17 := hs11.drew
   refine W.regionD [(0, 0), (0, 0), (3, 3), (4, 4), (0, 0), (0, 0), (48, 48), (64, 64), (136, 136)] (fun w_ => St B w [] w_ []) (by kernel_rfl) hs17 ?_
   refine zA (.slice xa xs.length xc) 0 hs17 ?_
   refine zA (zi p7) 1 hs17 ?_
   obtain ⟨h19, hm⟩ := need_some hm
   have hk18 := lt_toNat h19
   refine any_R 2 (by kernel_rfl) (fun _ hS_ => runs_index (a := xa) (n := xs.length) (z := p7) (size := 1) p7.toNat (nat_of h19.1) hk18 (kStr.addr (hs17.oldCells hx) hk18) (by kernel_rfl)) hs17 ?_
   refine zB 3 ((adr xa (p7.toNat * 1)).add 0) (.string (xs.getD p7.toNat ByteArray.empty)) (fun _ hS_ => (kStr.at (hS_.oldCells hx) hk18 ByteArray.empty 0 rfl)) hs17 ?_
   refine zA (.slice ya ys.length yc) 4 hs17 ?_
   refine zA (zi p7) 5 hs17 ?_
   obtain ⟨h21, hm⟩ := need_some hm
   have hk20 := lt_toNat h21
   refine any_R 6 (by kernel_rfl) (fun _ hS_ => runs_index (a := ya) (n := ys.length) (z := p7) (size := 1) p7.toNat (nat_of h21.1) hk20 (kStr.addr (hs17.oldCells hy) hk20) (by kernel_rfl)) hs17 ?_
   refine zB 7 ((adr ya (p7.toNat * 1)).add 0) (.string (ys.getD p7.toNat ByteArray.empty)) (fun _ hS_ => (kStr.at (hS_.oldCells hy) hk20 ByteArray.empty 0 rfl)) hs17 ?_
   refine zA (.bool (!((xs.getD p7.toNat ByteArray.empty).toList == (ys.getD p7.toNat ByteArray.empty).toList))) 8 hs17 ?_
   refine any_done (by kernel_rfl) ?_
   refine hK16 _ _ ?_
   refine W.cond (!((xs.getD p7.toNat ByteArray.empty).toList == (ys.getD p7.toNat ByteArray.empty).toList)) (by kernel_rfl) (fun h22 => ?_) (fun h22 => ?_)
   rotate_left
   ·
    have h22p : ((xs.getD p7.toNat ByteArray.empty).toList == (ys.getD p7.toNat ByteArray.empty).toList) = true := (bnot_false h22)
    replace hm := ite_yes hm h22p
    refine W.skip ?_
    refine normal_block ?_
    refine hK15 _ _ ?_
    refine W.region ?_
    refine zR 1 ?_
    obtain ⟨h23, hm⟩ := need_some hm
    refine zI _ (wrap_i64 h23.1 h23.2) ?_
    refine zE 1 ?_
    refine loopAt_next ?_
    exact ih9 (p7 + 1) _ _ ⟨slots_intro _ (by kernel_rfl), hs17⟩ hm
   have h22p : ¬ (((xs.getD p7.toNat ByteArray.empty).toList == (ys.getD p7.toNat ByteArray.empty).toList) = true) := ne_true_of_eq_false (bnot_true h22)
   replace hm := ite_no hm h22p
   refine W.sr fun K24 hK24 => ?_
   refine zE 1 (hK24 _ _ ?_)
   refine W.ret (ret_block (ret_seq (ret_seq (ret_block (ret_seq ?_)))))
   obtain rfl := some_inj hm
   refine ret_of (.bool false) (by kernel_rfl) ⟨_, ⟨rfl, rfl⟩, hs17⟩
  obtain ⟨h14p, hm⟩ := iN hm h14
  refine W.exit (exit_seq (exit_seq (exit_here ?_)))
  refine hK5 _ _ ?_
  refine W.sr fun K25 hK25 => ?_
  refine zE 1 (hK25 _ _ ?_)
  refine W.ret ?_
  obtain rfl := some_inj hm
  refine ret_of (.bool true) (by kernel_rfl) ⟨_, ⟨rfl, rfl⟩, hs11⟩
 have h4p : ¬ ((xs.length : Int) = (ys.length : Int)) := of_decide_eq_false (bnot_true h4)
 replace hm := ite_no hm h4p
 refine W.sr fun K26 hK26 => ?_
 refine zE 1 (hK26 _ _ ?_)
 refine W.ret (ret_seq ?_)
 obtain rfl := some_inj hm
 refine ret_of (.bool false) (by kernel_rfl) ⟨_, ⟨rfl, rfl⟩, hs⟩
end Go.Proofs.YtmmclabkkigiaaaGreat

set_option maxRecDepth 20000
set_option maxHeartbeats 8000000
namespace Go.Proofs.YtmmclabkkigiaaaGreat
open Go Go.RowKit
def works16_M  : Option (Bool) :=
 need ((0 : Int) ≤ 0 ∧ (0 : Int) ≤ 255) <|
need ((0 : Int) ≤ 0 ∧ (0 : Int) ≤ 255) <|
need ((fmtW 1 (2 + 0 % 20) (2 + 0 % 60)).length ≤ 17592186044415) <|
(psplit_M (ByteArray.mk #[47])).bind fun r30 =>
(psplit_M (ByteArray.mk #[47, 97, 47, 98])).bind fun r38 =>
(psplit_M (ByteArray.mk #[47, 97, 47])).bind fun r46 =>
(psplit_M (ByteArray.mk #[97])).bind fun r54 =>
(psplit_M ByteArray.empty).bind fun r62 =>
(pWalk_M (fmtW 1 (2 + 0 % 20) (2 + 0 % 60)) ([]) 1 (2 + 0 % 20) (2 + 0 % 60) (ByteArray.mk #[47])).bind fun r68 =>
(pWalk_M (fmtW 1 (2 + 0 % 20) (2 + 0 % 60)) ([]) 1 (2 + 0 % 20) (2 + 0 % 60) (ByteArray.mk #[47, 97])).bind fun r75 =>
(pParent_M (fmtW 1 (2 + 0 % 20) (2 + 0 % 60)) ([]) 1 (2 + 0 % 20) (2 + 0 % 60) (ByteArray.mk #[47, 97])).bind fun r81 =>
(pWithin_M (fmtW 1 (2 + 0 % 20) (2 + 0 % 60)) ([]) 1 (2 + 0 % 20) (2 + 0 % 60) 1 1).bind fun r87 =>
if r30.2 = 0 then (if (r30.1.length : Int) = 0 then (if r38.2 = 0 then ((rsame16_M r38.1 ([(ByteArray.mk #[97]), (ByteArray.mk #[98])])).bind fun r100 =>
if r100 = true then (if r46.2 = 13 then (if r54.2 = 13 then (if r62.2 = 13 then (if r68.2 = 0 then (if r68.1 = 1 then (if r75.2 = 6 then (if r81.2.2 = 0 then (if r81.1 = 1 then (if (r81.2.1.toList == (ByteArray.mk #[97]).toList) = true then (if r87.2 = 0 then (some r87.1) else (some false)) else (some false)) else (some false)) else (some false)) else (some false)) else (some false)) else (some false)) else (some false)) else (some false)) else (some false)) else (some false)) else (some false)) else (some false)) else (some false)
theorem works16_walk   {r : Bool} (B : Nat) (w : World) (hm : works16_M = some r) : Spec Tryz.prog 5 #[] B w [] (fun v H' => v = .bool r ∧ H' = []) := by
 refine spec_Q Tryz.func5 rfl fun hs => ?_
 unfold works16_M at hm
 refine W.sr fun K1 hK1 => ?_
 refine zE 1 (hK1 _ _ ?_)
 refine W.sr fun K2 hK2 => ?_
 obtain ⟨h3, hm⟩ := need_some hm
 obtain ⟨h4, hm⟩ := need_some hm
 refine zC00 hs (small_spec (x_ := 0) (y_ := 0) (hx := h3) (hy := h4) B _) fun w5 hs7 => ?_
 refine zN [(zi 0), (zi 0), (zi 0)] 24 hs7 fun b10 w8 hs9 => ?_
 refine zT 0 [(zi 1), (zi (2 + 0 % 20)), (zi (2 + 0 % 60))] [(zi 1), (zi (2 + 0 % 20)), (zi (2 + 0 % 60))] hs9 fun w11 hs13 => ?_
 refine zD (hK2 _ _ ?_)
 refine W.sr fun K14 hK14 => ?_
 refine zG ⟨b10, 0, none⟩ [(zi 1), (zi (2 + 0 % 20)), (zi (2 + 0 % 60))] (cells_sub (hs13.heapAt 0 rfl) rfl) ?_
 refine ops_call0 hs13 (by kernel_rfl) (format_spec (gw := 1) (gi := (2 + 0 % 20)) (gb := (2 + 0 % 60)) B _) ?_
 rintro _ _ w17 ⟨a15, c16, rfl, rfl⟩ hs18
 have hs19 := St.ap1 hs18
 obtain ⟨h21, hm⟩ := need_some hm
 refine ops_call0 hs19 (by kernel_rfl) (new_spec (hc := (St.kcells kU64 hs19 0 rfl)) (hn := (St.capnil kU64 hs19 0 rfl)) (hsz := h21) B _) ?_
 rintro _ _ w22 ⟨b20, rfl, rfl⟩ hs23
 have hs24 := St.ap1 hs23
 refine zE 1 (hK14 _ _ ?_)
 refine W.seq fun K25 hK25 => ?_
 refine W.sr fun K26 hK26 => ?_
 refine zE 2 (hK26 _ _ ?_)
 refine W.cond_false false (by kernel_rfl) rfl ?_
 refine W.skip ?_
 refine hK25 _ _ ?_
 refine W.sr fun K27 hK27 => ?_
 obtain ⟨r30, h31, hm⟩ := bind_some hm
 refine ops_call0 hs24 (by kernel_rfl) (psplit_walk (tx_ := (ByteArray.mk #[47])) (hm := h31) B _) ?_
 rintro _ _ w32 ⟨a28, c29, rfl, rfl⟩ hs33
 have hs34 := St.ap1 hs33
 refine zE 5 (hK27 _ _ ?_)
 refine W.sr fun K35 hK35 => ?_
 obtain ⟨r38, h39, hm⟩ := bind_some hm
 refine ops_call0 hs34 (by kernel_rfl) (psplit_walk (tx_ := (ByteArray.mk #[47, 97, 47, 98])) (hm := h39) B _) ?_
 rintro _ _ w40 ⟨a36, c37, rfl, rfl⟩ hs41
 have hs42 := St.ap1 hs41
 refine zE 5 (hK35 _ _ ?_)
 refine W.sr fun K43 hK43 => ?_
 obtain ⟨r46, h47, hm⟩ := bind_some hm
 refine ops_call0 hs42 (by kernel_rfl) (psplit_walk (tx_ := (ByteArray.mk #[47, 97, 47])) (hm := h47) B _) ?_
 rintro _ _ w48 ⟨a44, c45, rfl, rfl⟩ hs49
 have hs50 := St.ap1 hs49
 refine zE 5 (hK43 _ _ ?_)
 refine W.sr fun K51 hK51 => ?_
 obtain ⟨r54, h55, hm⟩ := bind_some hm
 refine ops_call0 hs50 (by kernel_rfl) (psplit_walk (tx_ := (ByteArray.mk #[97])) (hm := h55) B _) ?_
 rintro _ _ w56 ⟨a52, c53, rfl, rfl⟩ hs57
 have hs58 := St.ap1 hs57
 refine zE 5 (hK51 _ _ ?_)
 refine W.sr fun K59 hK59 => ?_
 obtain ⟨r62, h63, hm⟩ := bind_some hm
 refine ops_call0 hs58 (by kernel_rfl) (psplit_walk (tx_ := ByteArray.empty) (hm := h63) B _) ?_
 rintro _ _ w64 ⟨a60, c61, rfl, rfl⟩ hs65
 have hs66 := St.ap1 hs65
 refine zE 5 (hK59 _ _ ?_)
 refine W.sr fun K67 hK67 => ?_
 refine zR 1 ?_
 refine zG ⟨b10, 0, none⟩ [(zi 1), (zi (2 + 0 % 20)), (zi (2 + 0 % 60))] (cells_sub (hs66.heapAt 7 rfl) rfl) ?_
 obtain ⟨r68, h69, hm⟩ := bind_some hm
 have hs70 := St.f5 hs66
 refine zC11 hs70 (pWalk_walk (vb := b20) (gw := 1) (gi := (2 + 0 % 20)) (gb := (2 + 0 % 60)) (tx_ := (ByteArray.mk #[47])) (img := (fmtW 1 (2 + 0 % 20) (2 + 0 % 60))) (l := []) (hm := h69) B _) fun w71 hs73 => ?_
 refine zE 5 (hK67 _ _ ?_)
 refine W.sr fun K74 hK74 => ?_
 refine zR 1 ?_
 refine zG ⟨b10, 0, none⟩ [(zi 1), (zi (2 + 0 % 20)), (zi (2 + 0 % 60))] (cells_sub (hs73.heapAt 7 rfl) rfl) ?_
 obtain ⟨r75, h76, hm⟩ := bind_some hm
 refine zC11 hs73 (pWalk_walk (vb := b20) (gw := 1) (gi := (2 + 0 % 20)) (gb := (2 + 0 % 60)) (tx_ := (ByteArray.mk #[47, 97])) (img := (fmtW 1 (2 + 0 % 20) (2 + 0 % 60))) (l := []) (hm := h76) B _) fun w77 hs79 => ?_
 refine zE 5 (hK74 _ _ ?_)
 refine W.sr fun K80 hK80 => ?_
 refine zR 1 ?_
 refine zG ⟨b10, 0, none⟩ [(zi 1), (zi (2 + 0 % 20)), (zi (2 + 0 % 60))] (cells_sub (hs79.heapAt 7 rfl) rfl) ?_
 obtain ⟨r81, h82, hm⟩ := bind_some hm
 refine zC11 hs79 (pParent_walk (vb := b20) (gw := 1) (gi := (2 + 0 % 20)) (gb := (2 + 0 % 60)) (tx_ := (ByteArray.mk #[47, 97])) (img := (fmtW 1 (2 + 0 % 20) (2 + 0 % 60))) (l := []) (hm := h82) B _) fun w83 hs85 => ?_
 refine zE 7 (hK80 _ _ ?_)
 refine W.sr fun K86 hK86 => ?_
 refine zR 1 ?_
 refine zG ⟨b10, 0, none⟩ [(zi 1), (zi (2 + 0 % 20)), (zi (2 + 0 % 60))] (cells_sub (hs85.heapAt 7 rfl) rfl) ?_
 obtain ⟨r87, h88, hm⟩ := bind_some hm
 refine zC11 hs85 (pWithin_walk (vb := b20) (gw := 1) (gi := (2 + 0 % 20)) (gb := (2 + 0 % 60)) (a_ := 1) (b_ := 1) (img := (fmtW 1 (2 + 0 % 20) (2 + 0 % 60))) (l := []) (hm := h88) B _) fun w89 hs91 => ?_
 refine zE 5 (hK86 _ _ ?_)
 refine W.sr fun K92 hK92 => ?_
 refine zR 3 ?_
 rcases Bool.eq_false_or_eq_true (decide (r30.2 = 0)) with h93 | h93
 ·
  obtain ⟨h93p, hm⟩ := iY hm h93
  refine zS 75 h93 ?_
  refine zS 74 h93 ?_
  refine zR 5 ?_
  rcases Bool.eq_false_or_eq_true (decide ((r30.1.length : Int) = 0)) with h94 | h94
  ·
   obtain ⟨h94p, hm⟩ := iY hm h94
   refine zS 80 h94 ?_
   refine zS 78 h94 ?_
   refine zS 79 h94 ?_
   refine zR 4 ?_
   rcases Bool.eq_false_or_eq_true (decide (r38.2 = 0)) with h95 | h95
   ·
    obtain ⟨h95p, hm⟩ := iY hm h95
    refine zS 84 h95 ?_
    refine zS 82 h95 ?_
    refine zS 83 h95 ?_
    refine zR 1 ?_
    refine ops_new (fun b => .slice (some ⟨b, 0, none⟩) 2 2) (.cells [(.string (ByteArray.mk #[97])), (.string (ByteArray.mk #[98]))].toArray 9 (0, 0)) hs91 (by kernel_rfl) (fun b98 w96 hs97 => ?_)
    have hs99 : St B w [] w96 [kStr.row (some ⟨b98, 0, none⟩) 2 ([(ByteArray.mk #[97]), (ByteArray.mk #[98])]), viewA (ptr b20) (fmtW 1 (2 + 0 % 20) (2 + 0 % 60)) ([]), kStr.row a60 c61 r62.1, kStr.row a52 c53 r54.1, kStr.row a44 c45 r46.1, kStr.row a36 c37 r38.1, kStr.row a28 c29 r30.1, kU64.row a15 c16 (fmtW 1 (2 + 0 % 20) (2 + 0 % 60)), zb b10 24 [(zi 1), (zi (2 + 0 % 20)), (zi (2 + 0 % 60))]] := St.kblk kStr [(ByteArray.mk #[97]), (ByteArray.mk #[98])] hs97 rfl rfl (by simp only [List.length_cons, List.length_nil]; decide)
    obtain ⟨r100, h101, hm⟩ := bind_some hm
    refine zC00 hs99 (rsame16_walk (xs := r38.1) (ys := [(ByteArray.mk #[97]), (ByteArray.mk #[98])]) (xc := c37) (yc := 2) (hx := (St.kcells kStr hs99 5 rfl)) (hy := (St.kcells kStr hs99 0 rfl)) (hm := h101) B _) fun w102 hs104 => ?_
    refine zR 2 ?_
    rcases Bool.eq_false_or_eq_true r100 with h105 | h105
    ·
     have h105p : r100 = true := h105
     replace hm := ite_yes hm h105p
     refine zS 89 h105 ?_
     refine zS 87 h105 ?_
     refine zS 88 h105 ?_
     refine zR 4 ?_
     rcases Bool.eq_false_or_eq_true (decide (r46.2 = 13)) with h106 | h106
     ·
      obtain ⟨h106p, hm⟩ := iY hm h106
      refine zS 93 h106 ?_
      refine zS 91 h106 ?_
      refine zS 92 h106 ?_
      refine zR 4 ?_
      rcases Bool.eq_false_or_eq_true (decide (r54.2 = 13)) with h107 | h107
      ·
       obtain ⟨h107p, hm⟩ := iY hm h107
       refine zS 97 h107 ?_
       refine zS 95 h107 ?_
       refine zS 96 h107 ?_
       refine zR 4 ?_
       rcases Bool.eq_false_or_eq_true (decide (r62.2 = 13)) with h108 | h108
       ·
        obtain ⟨h108p, hm⟩ := iY hm h108
        refine zS 101 h108 ?_
        refine zS 99 h108 ?_
        refine zS 100 h108 ?_
        refine zR 4 ?_
        rcases Bool.eq_false_or_eq_true (decide (r68.2 = 0)) with h109 | h109
        ·
         obtain ⟨h109p, hm⟩ := iY hm h109
         refine zS 105 h109 ?_
         refine zS 103 h109 ?_
         refine zS 104 h109 ?_
         refine zR 4 ?_
         rcases Bool.eq_false_or_eq_true (decide (r68.1 = 1)) with h110 | h110
         ·
          obtain ⟨h110p, hm⟩ := iY hm h110
          refine zS 109 h110 ?_
          refine zS 107 h110 ?_
          refine zS 108 h110 ?_
          refine zR 4 ?_
          rcases Bool.eq_false_or_eq_true (decide (r75.2 = 6)) with h111 | h111
          ·
           obtain ⟨h111p, hm⟩ := iY hm h111
           refine zS 113 h111 ?_
           refine zS 111 h111 ?_
           refine zS 112 h111 ?_
           refine zR 4 ?_
           rcases Bool.eq_false_or_eq_true (decide (r81.2.2 = 0)) with h112 | h112
           ·
            obtain ⟨h112p, hm⟩ := iY hm h112
            refine zS 117 h112 ?_
            refine zS 115 h112 ?_
            refine zS 116 h112 ?_
            refine zR 4 ?_
            rcases Bool.eq_false_or_eq_true (decide (r81.1 = 1)) with h113 | h113
            ·
             obtain ⟨h113p, hm⟩ := iY hm h113
             refine zS 121 h113 ?_
             refine zS 119 h113 ?_
             refine zS 120 h113 ?_
             refine zR 4 ?_
             rcases Bool.eq_false_or_eq_true (r81.2.1.toList == (ByteArray.mk #[97]).toList) with h114 | h114
             ·
              have h114p : (r81.2.1.toList == (ByteArray.mk #[97]).toList) = true := h114
              replace hm := ite_yes hm h114p
              refine zS 125 h114 ?_
              refine zS 123 h114 ?_
              refine zS 124 h114 ?_
              refine zR 4 ?_
              rcases Bool.eq_false_or_eq_true (decide (r87.2 = 0)) with h115 | h115
              ·
               obtain ⟨h115p, hm⟩ := iY hm h115
               refine zS 129 h115 ?_
               refine zS 127 h115 ?_
               refine zS 128 h115 ?_
               refine zE 3 (hK92 _ _ ?_)
               refine W.ret ?_
               obtain rfl := some_inj hm
               have hs116 := St.tk0 hs104
               refine ret_of (.bool r87.1) (by kernel_rfl) ⟨_, ⟨rfl, rfl⟩, hs116⟩
              obtain ⟨h115p, hm⟩ := iN hm h115
              refine zS 129 h115 ?_
              refine zS 127 h115 ?_
              refine zS 128 h115 ?_
              refine zE 3 (hK92 _ _ ?_)
              refine W.ret ?_
              obtain rfl := some_inj hm
              have hs117 := St.tk0 hs104
              refine ret_of (.bool false) (by kernel_rfl) ⟨_, ⟨rfl, rfl⟩, hs117⟩
             have h114p : ¬ ((r81.2.1.toList == (ByteArray.mk #[97]).toList) = true) := ne_true_of_eq_false h114
             replace hm := ite_no hm h114p
             refine zS 125 h114 ?_
             refine zS 123 h114 ?_
             refine zS 124 h114 ?_
             refine zE 7 (hK92 _ _ ?_)
             refine W.ret ?_
             obtain rfl := some_inj hm
             have hs118 := St.tk0 hs104
             refine ret_of (.bool false) (by kernel_rfl) ⟨_, ⟨rfl, rfl⟩, hs118⟩
            obtain ⟨h113p, hm⟩ := iN hm h113
            refine zS 121 h113 ?_
            refine zS 119 h113 ?_
            refine zS 120 h113 ?_
            refine zE 11 (hK92 _ _ ?_)
            refine W.ret ?_
            obtain rfl := some_inj hm
            have hs119 := St.tk0 hs104
            refine ret_of (.bool false) (by kernel_rfl) ⟨_, ⟨rfl, rfl⟩, hs119⟩
           obtain ⟨h112p, hm⟩ := iN hm h112
           refine zS 117 h112 ?_
           refine zS 115 h112 ?_
           refine zS 116 h112 ?_
           refine zE 15 (hK92 _ _ ?_)
           refine W.ret ?_
           obtain rfl := some_inj hm
           have hs120 := St.tk0 hs104
           refine ret_of (.bool false) (by kernel_rfl) ⟨_, ⟨rfl, rfl⟩, hs120⟩
          obtain ⟨h111p, hm⟩ := iN hm h111
          refine zS 113 h111 ?_
          refine zS 111 h111 ?_
          refine zS 112 h111 ?_
          refine zE 19 (hK92 _ _ ?_)
          refine W.ret ?_
          obtain rfl := some_inj hm
          have hs121 := St.tk0 hs104
          refine ret_of (.bool false) (by kernel_rfl) ⟨_, ⟨rfl, rfl⟩, hs121⟩
         obtain ⟨h110p, hm⟩ := iN hm h110
         refine zS 109 h110 ?_
         refine zS 107 h110 ?_
         refine zS 108 h110 ?_
         refine zE 23 (hK92 _ _ ?_)
         refine W.ret ?_
         obtain rfl := some_inj hm
         have hs122 := St.tk0 hs104
         refine ret_of (.bool false) (by kernel_rfl) ⟨_, ⟨rfl, rfl⟩, hs122⟩
        obtain ⟨h109p, hm⟩ := iN hm h109
        refine zS 105 h109 ?_
        refine zS 103 h109 ?_
        refine zS 104 h109 ?_
        refine zE 27 (hK92 _ _ ?_)
        refine W.ret ?_
        obtain rfl := some_inj hm
        have hs123 := St.tk0 hs104
        refine ret_of (.bool false) (by kernel_rfl) ⟨_, ⟨rfl, rfl⟩, hs123⟩
       obtain ⟨h108p, hm⟩ := iN hm h108
       refine zS 101 h108 ?_
       refine zS 99 h108 ?_
       refine zS 100 h108 ?_
       refine zE 31 (hK92 _ _ ?_)
       refine W.ret ?_
       obtain rfl := some_inj hm
       have hs124 := St.tk0 hs104
       refine ret_of (.bool false) (by kernel_rfl) ⟨_, ⟨rfl, rfl⟩, hs124⟩
      obtain ⟨h107p, hm⟩ := iN hm h107
      refine zS 97 h107 ?_
      refine zS 95 h107 ?_
      refine zS 96 h107 ?_
      refine zE 35 (hK92 _ _ ?_)
      refine W.ret ?_
      obtain rfl := some_inj hm
      have hs125 := St.tk0 hs104
      refine ret_of (.bool false) (by kernel_rfl) ⟨_, ⟨rfl, rfl⟩, hs125⟩
     obtain ⟨h106p, hm⟩ := iN hm h106
     refine zS 93 h106 ?_
     refine zS 91 h106 ?_
     refine zS 92 h106 ?_
     refine zE 39 (hK92 _ _ ?_)
     refine W.ret ?_
     obtain rfl := some_inj hm
     have hs126 := St.tk0 hs104
     refine ret_of (.bool false) (by kernel_rfl) ⟨_, ⟨rfl, rfl⟩, hs126⟩
    have h105p : ¬ (r100 = true) := ne_true_of_eq_false h105
    replace hm := ite_no hm h105p
    refine zS 89 h105 ?_
    refine zS 87 h105 ?_
    refine zS 88 h105 ?_
    refine zE 43 (hK92 _ _ ?_)
    refine W.ret ?_
    obtain rfl := some_inj hm
    have hs127 := St.tk0 hs104
    refine ret_of (.bool false) (by kernel_rfl) ⟨_, ⟨rfl, rfl⟩, hs127⟩
   obtain ⟨h95p, hm⟩ := iN hm h95
   refine zS 84 h95 ?_
   refine zS 82 h95 ?_
   refine zS 83 h95 ?_
   refine zE 48 (hK92 _ _ ?_)
   refine W.ret ?_
   obtain rfl := some_inj hm
   have hs128 := St.tk0 hs91
   refine ret_of (.bool false) (by kernel_rfl) ⟨_, ⟨rfl, rfl⟩, hs128⟩
  obtain ⟨h94p, hm⟩ := iN hm h94
  refine zS 80 h94 ?_
  refine zS 78 h94 ?_
  refine zS 79 h94 ?_
  refine zE 52 (hK92 _ _ ?_)
  refine W.ret ?_
  obtain rfl := some_inj hm
  have hs129 := St.tk0 hs91
  refine ret_of (.bool false) (by kernel_rfl) ⟨_, ⟨rfl, rfl⟩, hs129⟩
 obtain ⟨h93p, hm⟩ := iN hm h93
 refine zS 75 h93 ?_
 refine zS 74 h93 ?_
 refine zE 57 (hK92 _ _ ?_)
 refine W.ret ?_
 obtain rfl := some_inj hm
 have hs130 := St.tk0 hs91
 refine ret_of (.bool false) (by kernel_rfl) ⟨_, ⟨rfl, rfl⟩, hs130⟩
end Go.Proofs.YtmmclabkkigiaaaGreat

namespace Go.Proofs.YtmmclabkkigiaaaGreat
open Go Go.RowKit
set_option maxRecDepth 100000 in
set_option maxHeartbeats 4000000 in
theorem works16_eq : works16_M = some true := by decide +kernel
theorem works16_stop : Ok (· = true) ((works16_M).bind fun r => some r) := by
  rw [works16_eq]
  exact Ok.some rfl
end Go.Proofs.YtmmclabkkigiaaaGreat

namespace Go.Proofs.YtmmclabkkigiaaaGreat
open Go Go.RowKit
structure TMk where
  c0 : Int
  c1 : ByteArray
  c2 : Int
def dMk : TMk := (⟨0, .empty, 0⟩ : TMk)
def kMk : Kind TMk := ⟨74, 3, fun x => [.int .u8 x.c0, .string x.c1, .int .u8 x.c2], by decide, fun _ => rfl, fun _ => rfl⟩
def good_Mk (x : TMk) : Prop := (0 ≤ x.c0 ∧ x.c0 ≤ 255) ∧ (0 ≤ x.c2 ∧ x.c2 ≤ 255)
end Go.Proofs.YtmmclabkkigiaaaGreat

set_option maxRecDepth 20000
set_option maxHeartbeats 8000000
namespace Go.Proofs.YtmmclabkkigiaaaGreat
open Go Go.RowKit
def tree_J1 (q37 : List Int) (n38 : Nat) : Option (List Int) :=
 need (n38 = q37.length) <|
some q37
def tree_J3 (k60 : ((List Int) × Nat × (List Int) × Nat × Int × Int) → Option (List Int)) (q52 : List Int) (p58 : Int) (p59 : Int) (r105 : Int × List (Int × Int)) (q126 : List Int) (n127 : Nat) (p128 : Int) (p129 : Int) : Option (List Int) :=
 (some (iputM q52 r105.2 1 (2 + (19 : Int) % 20) (2 + 59 % 60) p58 ⟨p128, 1, 0, 0, 0, 0, 0, 0, 0, p129⟩)).bind fun r133 =>
need (0 ≤ (placeOf 6 1 (2 + (19 : Int) % 20) (2 + 59 % 60) 0) ∧ (placeOf 6 1 (2 + (19 : Int) % 20) (2 + 59 % 60) 0) < (((vflat q52 r133.2).length) : Int)) <|
need (0 ≤ p58 ∧ p58 ≤ 18446744073709551615) <|
need (0 ≤ p58) <|
need (0 ≤ (placeOf 6 1 (2 + (19 : Int) % 20) (2 + 59 % 60) 0) ∧ (placeOf 6 1 (2 + (19 : Int) % 20) (2 + 59 % 60) 0) < (((vflat q52 r133.2).length) : Int)) <|
need (-9223372036854775808 ≤ (p58 + 1) ∧ (p58 + 1) ≤ 9223372036854775807) <|
need (-9223372036854775808 ≤ (p59 + 1) ∧ (p59 + 1) ≤ 9223372036854775807) <|
k60 (((vflat q52 r133.2).set ((placeOf 6 1 (2 + (19 : Int) % 20) (2 + 59 % 60) 0).toNat) (bits .or .u64 ((vflat q52 r133.2).getD ((placeOf 6 1 (2 + (19 : Int) % 20) (2 + 59 % 60) 0).toNat) 0) (shlK .u64 1 p58))), (vflat q52 r133.2).length, q126, n127, (p58 + 1), (p59 + 1))
def tree_B0 (ms : List TMk) (k60 : ((List Int) × Nat × (List Int) × Nat × Int × Int) → Option (List Int)) (q52 : List Int) (n53 : Nat) (q56 : List Int) (n57 : Nat) (p58 : Int) (p59 : Int) : Option (List Int) :=
 if p59 < (ms.length : Int) then (if p58 < (2 + (19 : Int) % 20) then (need (n53 = q52.length) <|
need (q52.length ≤ 17592186044415) <|
need (0 ≤ p59 ∧ p59 < (ms.length : Int)) <|
need (-9223372036854775808 ≤ ((ms.getD p59.toNat dMk).c0) ∧ ((ms.getD p59.toNat dMk).c0) ≤ 9223372036854775807) <|
need (¬ ((n57 : Int) = 0)) <|
need (0 ≤ (((ms.getD p59.toNat dMk).c0).tmod (n57 : Int)) ∧ (((ms.getD p59.toNat dMk).c0).tmod (n57 : Int)) < (n57 : Int)) <|
need ((((ms.getD p59.toNat dMk).c0).tmod (n57 : Int)).toNat < q56.length) <|
(some (q56.getD ((((ms.getD p59.toNat dMk).c0).tmod (n57 : Int)).toNat) 0)).bind fun r89 =>
need (0 ≤ p59 ∧ p59 < (ms.length : Int)) <|
need (0 ≤ p59 ∧ p59 < (ms.length : Int)) <|
need ((0 : Int) ≤ 0 ∧ (0 : Int) ≤ (mn (((ms.getD p59.toNat dMk).c1).size : Int) 50) ∧ (mn (((ms.getD p59.toNat dMk).c1).size : Int) 50) ≤ (((ms.getD p59.toNat dMk).c1).size : Int)) <|
(rAdd15_M q52 ([]) 1 (2 + (19 : Int) % 20) (2 + 59 % 60) r89 (((ms.getD p59.toNat dMk).c1).extract 0 ((mn (((ms.getD p59.toNat dMk).c1).size : Int) 50).toNat)) p58).bind fun r105 =>
if r105.1 = 0 then (need (0 ≤ p59 ∧ p59 < (ms.length : Int)) <|
if ((ms.getD p59.toNat dMk).c2).tmod 3 = 0 then (tree_J3 k60 q52 p58 p59 r105 q56 n57 1 0) else (need (0 ≤ r89 ∧ r89 ≤ 18446744073709551615) <|
need (q56.length + 1 ≤ 1000000000) <|
need (n57 = q56.length) <|
tree_J3 k60 q52 p58 p59 r105 (q56 ++ [p58]) ((q56 ++ [p58]).length) 2 r89)) else (need (-9223372036854775808 ≤ (p59 + 1) ∧ (p59 + 1) ≤ 9223372036854775807) <|
k60 (q52, n53, q56, n57, p58, (p59 + 1)))) else (tree_J1 q52 n53)) else (tree_J1 q52 n53)
def tree_M (ms : List TMk) : Option (List Int) :=
 need ((0 : Int) ≤ 19 ∧ (19 : Int) ≤ 255) <|
need ((0 : Int) ≤ 59 ∧ (59 : Int) ≤ 255) <|
iter (fun k_ s_ => tree_B0 ms k_ s_.1 s_.2.1 s_.2.2.1 s_.2.2.2.1 s_.2.2.2.2.1 s_.2.2.2.2.2) FUEL ((fmtW 1 (2 + (19 : Int) % 20) (2 + 59 % 60)), (fmtW 1 (2 + (19 : Int) % 20) (2 + 59 % 60)).length, [1], 1, 2, 0)
theorem tree_walk {ms : List TMk} {ma : Option Addr} {mc : Nat} {r : List Int} (B : Nat) (w : World) (hmk : CellsAt ma (kMk.cells ms) w) (hm : tree_M ms = some r) : Spec Tryz.prog 6 #[(.slice ma ms.length mc)] B w [] (fun v H' => ∃ a' c', v = .tuple #[(.agg #[(zi 1), (zi (2 + (19 : Int) % 20)), (zi (2 + (59 : Int) % 60))]), .slice a' r.length c'] ∧ H' = [kU64.row a' c' r]) := by
 refine spec_Q Tryz.func6 rfl fun hs => ?_
 unfold tree_M at hm
 refine W.sr fun K1 hK1 => ?_
 refine zN [(zi 0), (zi 0), (zi 0)] 24 hs fun b4 w2 hs3 => ?_
 refine zE 1 (hK1 _ _ ?_)
 refine W.sr fun K5 hK5 => ?_
 obtain ⟨h6, hm⟩ := need_some hm
 obtain ⟨h7, hm⟩ := need_some hm
 refine zC00 hs3 (small_spec (x_ := (19 : Int)) (y_ := 59) (hx := h6) (hy := h7) B _) fun w8 hs10 => ?_
 refine zN [(zi 0), (zi 0), (zi 0)] 24 hs10 fun b13 w11 hs12 => ?_
 refine zT 0 [(zi 1), (zi (2 + (19 : Int) % 20)), (zi (2 + 59 % 60))] [(zi 1), (zi (2 + (19 : Int) % 20)), (zi (2 + 59 % 60))] hs12 fun w14 hs16 => ?_
 refine zD (hK5 _ _ ?_)
 refine W.sr fun K17 hK17 => ?_
 refine zG ⟨b13, 0, none⟩ [(zi 1), (zi (2 + (19 : Int) % 20)), (zi (2 + 59 % 60))] (cells_sub (hs16.heapAt 0 rfl) rfl) ?_
 refine zN [(zi 0), (zi 0), (zi 0)] 37 hs16 fun b20 w18 hs19 => ?_
 refine zT 0 [(zi 1), (zi (2 + (19 : Int) % 20)), (zi (2 + 59 % 60))] [(zi 1), (zi (2 + (19 : Int) % 20)), (zi (2 + 59 % 60))] hs19 fun w21 hs23 => ?_
 refine zD (hK17 _ _ ?_)
 refine W.sr fun K24 hK24 => ?_
 refine zG ⟨b20, 0, none⟩ [(zi 1), (zi (2 + (19 : Int) % 20)), (zi (2 + 59 % 60))] (cells_sub (hs23.heapAt 0 rfl) rfl) ?_
 refine ops_call0 hs23 (by kernel_rfl) (format_spec (gw := 1) (gi := (2 + (19 : Int) % 20)) (gb := (2 + 59 % 60)) B _) ?_
 rintro _ _ w27 ⟨a25, c26, rfl, rfl⟩ hs28
 have hs29 := St.ap1 hs28
 refine zE 1 (hK24 _ _ ?_)
 refine W.sr fun K30 hK30 => ?_
 refine ops_new (fun b => .slice (some ⟨b, 0, none⟩) 1 1) (.cells [(zi 1)].toArray 3 (0, 0)) hs29 (by kernel_rfl) (fun b33 w31 hs32 => ?_)
 refine zE 1 (hK30 _ _ ?_)
 refine W.sr fun K34 hK34 => ?_
 refine zE 1 (hK34 _ _ ?_)
 refine W.seq_join (fun s_ w_ => ∃ (q37 : List Int) (n38 : Nat) (m35 : Option Addr) (m36 : Nat), (∃ us, s_ = slots 100 [(2, (zp b4)), (4, (zp b13)), (6, (.slice m35 n38 m36))] us) ∧ St B w [] w_ [zb b4 24 [(zi 0), (zi 0), (zi 0)], zb b13 24 [(zi 1), (zi (2 + (19 : Int) % 20)), (zi (2 + 59 % 60))], kU64.row m35 m36 q37, zb b20 37 [(zi 1), (zi (2 + (19 : Int) % 20)), (zi (2 + 59 % 60))]] ∧ tree_J1 q37 n38 = some r) ?_ ?_
 ·
  rintro _ w39 ⟨q37, n38, m35, m36, ⟨us, rfl⟩, hs40, hm⟩
  unfold tree_J1 at hm
  refine W.sr fun K41 hK41 => ?_
  refine zG ⟨b13, 0, none⟩ [(zi 1), (zi (2 + (19 : Int) % 20)), (zi (2 + 59 % 60))] (cells_sub (hs40.heapAt 1 rfl) rfl) ?_
  refine zR 1 ?_
  refine zT 0 [(zi 1), (zi (2 + (19 : Int) % 20)), (zi (2 + 59 % 60))] [(zi 1), (zi (2 + (19 : Int) % 20)), (zi (2 + 59 % 60))] hs40 fun w42 hs44 => ?_
  refine zE 1 (hK41 _ _ ?_)
  refine W.ret ?_
  obtain ⟨h45, hm⟩ := need_some hm
  obtain rfl := some_inj hm
  have hs46 := St.f2 hs44
  have hs47 := St.tk1 hs46
  refine ret_of (.tuple #[(.agg #[(zi 1), (zi (2 + (19 : Int) % 20)), (zi (2 + 59 % 60))]), (.slice m35 n38 m36)]) (resS_of (by kernel_rfl) (resD_two rfl (.agg (ad := ⟨b4, 0, none⟩) (cs := [(zi 1), (zi (2 + (19 : Int) % 20)), (zi (2 + 59 % 60))]) (by kernel_rfl) (by kernel_rfl) (cells_sub (hs44.heapAt 0 rfl) rfl)) (.tmp (by kernel_rfl)))) ⟨_, ⟨m35, m36, (by rw [h45]), rfl⟩, hs47⟩
 refine W.sr fun K48 hK48 => ?_
 refine zE 1 (hK48 _ _ ?_)
 refine W.block ?_
 have hs49 : St B w [] w31 [kInt.row (some ⟨b33, 0, none⟩) 1 ([1]), kU64.row a25 c26 (fmtW 1 (2 + (19 : Int) % 20) (2 + 59 % 60)), zb b20 37 [(zi 1), (zi (2 + (19 : Int) % 20)), (zi (2 + 59 % 60))], zb b13 24 [(zi 1), (zi (2 + (19 : Int) % 20)), (zi (2 + 59 % 60))], zb b4 24 [(zi 0), (zi 0), (zi 0)]] := St.kblk kInt [1] hs32 rfl rfl (by simp only [List.length_cons, List.length_nil]; decide)
 have hs64 := St.f1 hs49
 have hs65 := St.f2 hs64
 have hs66 := St.f3 hs65
 have hs67 := St.f4 hs66
 refine W.loop_iter (G := (List Int) × Nat × (List Int) × Nat × Int × Int × (Option Addr) × Nat × (Option Addr) × Nat) (σ := (List Int) × Nat × (List Int) × Nat × Int × Int) (fun | (q52, n53, q56, n57, p58, p59, m50, m51, m54, m55) => (q52, n53, q56, n57, p58, p59)) (fun | (q52, n53, q56, n57, p58, p59, m50, m51, m54, m55), s_, w_ => (∃ us, s_ = slots 100 [(0, (.slice ma ms.length mc)), (2, (zp b4)), (4, (zp b13)), (5, (zp b20)), (6, (.slice m50 n53 m51)), (7, (.slice m54 n57 m55)), (8, (zi p58)), (9, (zi p59))] us) ∧ St B w [] w_ [zb b4 24 [(zi 0), (zi 0), (zi 0)], zb b13 24 [(zi 1), (zi (2 + (19 : Int) % 20)), (zi (2 + 59 % 60))], zb b20 37 [(zi 1), (zi (2 + (19 : Int) % 20)), (zi (2 + 59 % 60))], kU64.row m50 m51 q52, kInt.row m54 m55 q56]) ((fmtW 1 (2 + (19 : Int) % 20) (2 + 59 % 60)), (fmtW 1 (2 + (19 : Int) % 20) (2 + 59 % 60)).length, [1], 1, 2, 0, a25, c26, (some ⟨b33, 0, none⟩), 1) ⟨slots_intro _ (by kernel_rfl), hs67⟩ hm ?_
 rintro k60 ih61 ⟨q52, n53, q56, n57, p58, p59, m50, m51, m54, m55⟩ _ w62 ⟨⟨us, rfl⟩, hs63⟩ hm
 replace hm : tree_B0 ms k60 q52 n53 q56 n57 p58 p59 = some r := hm
 unfold tree_B0 at hm
 refine W.seq fun K68 hK68 => ?_
 refine W.sr fun K69 hK69 => ?_
 refine zR 5 ?_
 rcases Bool.eq_false_or_eq_true (decide (p59 < (ms.length : Int))) with h70 | h70
 ·
  obtain ⟨h70p, hm⟩ := iY hm h70
  refine zS 22 h70 ?_
  refine zS 21 h70 ?_
  refine zR 2 ?_
  refine zL ⟨b13, 1, none⟩ (zi (2 + (19 : Int) % 20)) (hs63.cellAt 1 rfl rfl) ?_
  refine zE 2 (hK69 _ _ ?_)
  refine W.cond (decide (p58 < (2 + (19 : Int) % 20))) (by kernel_rfl) (fun h71 => ?_) (fun h71 => ?_)
  ·
   obtain ⟨h71p, hm⟩ := iY hm h71
   refine W.skip ?_
   refine hK68 _ _ ?_
   refine W.seq fun K72 hK72 => ?_
   refine W.block ?_
   refine W.sr fun K73 hK73 => ?_
   refine zR 1 ?_
   obtain ⟨h74, hm⟩ := need_some hm
   refine ops_set 30 (v := (.slice m50 q52.length m51)) (Eq.trans (by kernel_rfl) (congrArg (fun n_ => Value.slice m50 n_ m51) h74)) ?_
   obtain ⟨h76, hm⟩ := need_some hm
   refine ops_call0 hs63 (by kernel_rfl) (rnew_spec (hc := (St.kcells kU64 hs63 3 rfl)) (hn := (St.capnil kU64 hs63 3 rfl)) (hsz := h76) B _) ?_
   rintro _ _ w77 ⟨b75, rfl, rfl⟩ hs78
   have hs79 := St.ap1 hs78
   refine zE 1 (hK73 _ _ ?_)
   refine W.sr fun K80 hK80 => ?_
   refine zR 3 ?_
   obtain ⟨h82, hm⟩ := need_some hm
   have hk81 := lt_toNat h82
   refine ops_R (runs_index (a := ma) (n := ms.length) (z := p59) (size := 3) p59.toNat (nat_of h82.1) hk81 (kMk.addr (hs79.oldCells hmk) hk81) (by kernel_rfl)) ?_
   refine zR 1 ?_
   refine zL ((adr ma (p59.toNat * 3)).add 0) (.int .u8 ((ms.getD p59.toNat dMk).c0)) (kMk.at (hs79.oldCells hmk) hk81 dMk 0 rfl) ?_
   obtain ⟨h83, hm⟩ := need_some hm
   refine zI _ (wrap_i64 h83.1 h83.2) ?_
   refine zR 2 ?_
   obtain ⟨h84, hm⟩ := need_some hm
   refine ops_R (v := .int .i64 (((ms.getD p59.toNat dMk).c0).tmod (n57 : Int))) (runs_rem (k := .i64) (a := (ms.getD p59.toNat dMk).c0) (b := (n57 : Int)) (by kernel_rfl) h84 rfl) ?_
   obtain ⟨h86, hm⟩ := need_some hm
   have hk85 := lt_toNat h86
   obtain ⟨h88, hm⟩ := need_some hm
   have hk87 := h88
   refine ops_R (runs_index (a := m54) (n := n57) (z := (((ms.getD p59.toNat dMk).c0).tmod (n57 : Int))) (size := 1) ((((ms.getD p59.toNat dMk).c0).tmod (n57 : Int)).toNat) (nat_of h86.1) hk85 (kInt.addr (St.kcells kInt hs79 5 rfl) hk87) (by kernel_rfl)) ?_
   refine zL ((adr m54 (((((ms.getD p59.toNat dMk).c0).tmod (n57 : Int)).toNat) * 1)).add 0) (zi (q56.getD ((((ms.getD p59.toNat dMk).c0).tmod (n57 : Int)).toNat) 0)) (kInt.at (St.kcells kInt hs79 5 rfl) hk87 0 0 rfl) ?_
   refine zR 1 ?_
   obtain ⟨r89, h90, hm⟩ := bind_some hm
   replace h90 := some_inj h90
   refine ops_set 11 (v := .int .i64 r89) (Eq.trans (by kernel_rfl) (congrArg (Value.int .i64) h90)) ?_
   refine zD (hK80 _ _ ?_)
   refine W.seq fun K91 hK91 => ?_
   refine W.seq fun K92 hK92 => ?_
   have hs93 := hs79.drew
   have hs94 := St.f5 hs93
   have hs95 := St.f5 hs94
   have hs96 := St.f5 hs95
   have hs97 := St.f5 hs96
   have hs98 := St.f5 hs97
   have hs99 := St.tk5 hs98
   refine W.regionD [(0, 0), (0, 0), (0, 0), (0, 0), (0, 0), (24, 24), (32, 32), (64, 64), (0, 0), (0, 0), (768, 768), (1024, 1024), (2048, 2048), (4096, 4096), (8192, 8192), (16512, 16512), (0, 0), (98304, 98304), (131079, 131079), (262144, 262144)] (fun w_ => St B w [] w_ [zb b4 24 [(zi 0), (zi 0), (zi 0)], zb b13 24 [(zi 1), (zi (2 + (19 : Int) % 20)), (zi (2 + 59 % 60))], zb b20 37 [(zi 1), (zi (2 + (19 : Int) % 20)), (zi (2 + 59 % 60))], kU64.row m50 m51 q52, kInt.row m54 m55 q56]) (by kernel_rfl) hs99 ?_
   refine zA (zp b75) 0 hs99 ?_
   refine any_R 1 (by kernel_rfl) (fun _ hS_ => runs_loadAgg (ad := ⟨b20, 0, none⟩) (cs := [(zi 1), (zi (2 + (19 : Int) % 20)), (zi (2 + 59 % 60))]) (by kernel_rfl) (cells_sub (hS_.heapAt 2 rfl) rfl)) hs99 ?_
   refine zA (zi r89) 2 hs99 ?_
   refine zA (.slice ma ms.length mc) 3 hs99 ?_
   refine zA (zi p59) 4 hs99 ?_
   obtain ⟨h101, hm⟩ := need_some hm
   have hk100 := lt_toNat h101
   refine any_R 5 (by kernel_rfl) (fun _ hS_ => runs_index (a := ma) (n := ms.length) (z := p59) (size := 3) p59.toNat (nat_of h101.1) hk100 (kMk.addr (hs93.oldCells hmk) hk100) (by kernel_rfl)) hs99 ?_
   refine zA (.pointer (some ((adr ma (p59.toNat * 3)).add 1))) 6 hs99 ?_
   refine zB 7 ((adr ma (p59.toNat * 3)).add 1) (.string ((ms.getD p59.toNat dMk).c1)) (fun _ hS_ => (kMk.at (hS_.oldCells hmk) hk100 dMk 1 rfl)) hs99 ?_
   refine zA (.slice ma ms.length mc) 8 hs99 ?_
   refine zA (zi p59) 9 hs99 ?_
   obtain ⟨h103, hm⟩ := need_some hm
   have hk102 := lt_toNat h103
   refine any_R 10 (by kernel_rfl) (fun _ hS_ => runs_index (a := ma) (n := ms.length) (z := p59) (size := 3) p59.toNat (nat_of h103.1) hk102 (kMk.addr (hs93.oldCells hmk) hk102) (by kernel_rfl)) hs99 ?_
   refine zA (.pointer (some ((adr ma (p59.toNat * 3)).add 1))) 11 hs99 ?_
   refine zB 12 ((adr ma (p59.toNat * 3)).add 1) (.string ((ms.getD p59.toNat dMk).c1)) (fun _ hS_ => (kMk.at (hS_.oldCells hmk) hk102 dMk 1 rfl)) hs99 ?_
   refine zA (zi (((ms.getD p59.toNat dMk).c1).size : Int)) 13 hs99 ?_
   refine zA (zi (mn (((ms.getD p59.toNat dMk).c1).size : Int) 50)) 14 hs99 ?_
   obtain ⟨h104, hm⟩ := need_some hm
   refine any_R (v := (.string (((ms.getD p59.toNat dMk).c1).extract 0 ((mn (((ms.getD p59.toNat dMk).c1).size : Int) 50).toNat)))) 15 (by kernel_rfl) (fun _ hS_ => runs_strSlice (b := (ms.getD p59.toNat dMk).c1) (lo := none) (hi := (some (mn (((ms.getD p59.toNat dMk).c1).size : Int) 50))) 0 ((mn (((ms.getD p59.toNat dMk).c1).size : Int) 50).toNat) (.inr ⟨rfl, rfl⟩) (.inl (congrArg some (nat_of (Int.le_trans h104.1 h104.2.1)))) (by omega) (by omega) (by kernel_rfl)) hs99 ?_
   refine zA (zi p58) 16 hs99 ?_
   refine zA (.agg #[(.string (((ms.getD p59.toNat dMk).c1).extract 0 ((mn (((ms.getD p59.toNat dMk).c1).size : Int) 50).toNat))), (zi p58)]) 17 hs99 ?_
   refine any_step 18 (by kernel_rfl) (by kernel_rfl) ?_
   obtain ⟨r105, h106, hm⟩ := bind_some hm
   refine zC11 hs93 (rAdd15_walk (vb := b75) (gw := 1) (gi := (2 + (19 : Int) % 20)) (gb := (2 + 59 % 60)) (n_ := r89) (xn_ := (((ms.getD p59.toNat dMk).c1).extract 0 ((mn (((ms.getD p59.toNat dMk).c1).size : Int) 50).toNat))) (xi_ := p58) (img := q52) (l := []) (hm := h106) B _) fun w107 hs109 => ?_
   have hs110 := St.f5 hs109
   have hs111 := St.f5 hs110
   have hs112 := St.f5 hs111
   have hs113 := St.f5 hs112
   have hs114 := St.f5 hs113
   have hs115 := St.tk5 hs114
   refine ops_done (by kernel_rfl) ⟨hs115, ?_⟩
   refine zA (.bool (!decide (r105.1 = 0))) 19 hs115 ?_
   refine any_done (by kernel_rfl) ?_
   refine hK92 _ _ ?_
   refine W.cond (!decide (r105.1 = 0)) (by kernel_rfl) (fun h116 => ?_) (fun h116 => ?_)
   rotate_left
   ·
    have h116p : r105.1 = 0 := of_decide_eq_true (bnot_false h116)
    replace hm := ite_yes hm h116p
    refine W.skip ?_
    refine hK91 _ _ ?_
    refine W.sr fun K117 hK117 => ?_
    refine zR 1 ?_
    refine zN [(zu 0), (zu 0), (zu 0), (zu 0), (zu 0), (zu 0), (zu 0), (zu 0), (zu 0), (zu 0)] 77 hs109 fun b120 w118 hs119 => ?_
    refine zT 0 [(zu 1), (zu 1), (zu 0), (zu 0), (zu 0), (zu 0), (zu 0), (zu 0), (zu 0), (zu 0)] [(zu 1), (zu 1), (zu 0), (zu 0), (zu 0), (zu 0), (zu 0), (zu 0), (zu 0), (zu 0)] hs119 fun w121 hs123 => ?_
    refine zD (hK117 _ _ ?_)
    refine W.seq_join (fun s_ w_ => ∃ (q126 : List Int) (n127 : Nat) (p128 : Int) (p129 : Int) (m124 : Option Addr) (m125 : Nat), (∃ us, s_ = slots 100 [(0, (.slice ma ms.length mc)), (2, (zp b4)), (4, (zp b13)), (5, (zp b20)), (7, (.slice m124 n127 m125)), (8, (zi p58)), (9, (zi p59)), (10, (zp b75)), (12, (zp b120))] us) ∧ St B w [] w_ [zb b4 24 [(zi 0), (zi 0), (zi 0)], zb b13 24 [(zi 1), (zi (2 + (19 : Int) % 20)), (zi (2 + 59 % 60))], zb b20 37 [(zi 1), (zi (2 + (19 : Int) % 20)), (zi (2 + 59 % 60))], kInt.row m124 m125 q126, refA (ptr b75) q52 r105.2, zb b120 77 [(zu p128), (zu 1), (zu 0), (zu 0), (zu 0), (zu 0), (zu 0), (zu 0), (zu 0), (zu p129)], kU64.row m50 m51 q52] ∧ tree_J3 k60 q52 p58 p59 r105 q126 n127 p128 p129 = some r) ?_ ?_
    ·
     rintro _ w130 ⟨q126, n127, p128, p129, m124, m125, ⟨us, rfl⟩, hs131, hm⟩
     unfold tree_J3 at hm
     refine W.sr fun K132 hK132 => ?_
     refine zR 1 ?_
     refine zG ⟨b20, 0, none⟩ [(zi 1), (zi (2 + (19 : Int) % 20)), (zi (2 + 59 % 60))] (cells_sub (hs131.heapAt 2 rfl) rfl) ?_
     refine zR 1 ?_
     refine zG ⟨b120, 0, none⟩ [(zu p128), (zu 1), (zu 0), (zu 0), (zu 0), (zu 0), (zu 0), (zu 0), (zu 0), (zu p129)] (cells_sub (hs131.heapAt 5 rfl) rfl) ?_
     obtain ⟨r133, h134, hm⟩ := bind_some hm
     replace h134 := some_inj h134
     have hs137 := St.f4 hs131
     refine ops_call1 hs137 (by kernel_rfl) (rp_spec (b := b75) (img := q52) (l := r105.2) (gw := 1) (gi := (2 + (19 : Int) % 20)) (gb := (2 + 59 % 60)) (n_ := p58) (x_ := ⟨p128, 1, 0, 0, 0, 0, 0, 0, 0, p129⟩) B _) ?_
     rintro _ _ w138 ⟨hv135, hH136⟩ hs139
     rw [h134] at hv135
     try rw [h134] at hH136
     subst hv135 hH136
     have hs140 := St.ap1 hs139
     refine zD (hK132 _ _ ?_)
     refine W.sr fun K141 hK141 => ?_
     refine zR 1 ?_
     refine ops_call0 hs140 (by kernel_rfl) (rflat_spec (hv := (hs140.entAt 0 rfl refA_at)) B _) ?_
     rintro _ _ w144 ⟨a142, c143, rfl, rfl⟩ hs145
     have hs146 := St.ap1 hs145
     refine zE 1 (hK141 _ _ ?_)
     refine W.sr fun K147 hK147 => ?_
     refine zR 1 ?_
     refine zG ⟨b20, 0, none⟩ [(zi 1), (zi (2 + (19 : Int) % 20)), (zi (2 + 59 % 60))] (cells_sub (hs146.heapAt 4 rfl) rfl) ?_
     refine zC00 hs146 (rmapat_spec (gw := 1) (gi := (2 + (19 : Int) % 20)) (gb := (2 + 59 % 60)) B _) fun w148 hs150 => ?_
     obtain ⟨h152, hm⟩ := need_some hm
     have hk151 := lt_toNat h152
     refine ops_R (runs_index (a := a142) (n := (vflat q52 r133.2).length) (z := (placeOf 6 1 (2 + (19 : Int) % 20) (2 + 59 % 60) 0)) (size := 1) ((placeOf 6 1 (2 + (19 : Int) % 20) (2 + 59 % 60) 0).toNat) (nat_of h152.1) hk151 (kU64.addr (St.kcells kU64 hs150 0 rfl) hk151) (by kernel_rfl)) ?_
     refine zL ((adr a142 (((placeOf 6 1 (2 + (19 : Int) % 20) (2 + 59 % 60) 0).toNat) * 1)).add 0) (zu ((vflat q52 r133.2).getD ((placeOf 6 1 (2 + (19 : Int) % 20) (2 + 59 % 60) 0).toNat) 0)) (kU64.at (St.kcells kU64 hs150 0 rfl) hk151 0 0 rfl) ?_
     refine zR 1 ?_
     obtain ⟨h153, hm⟩ := need_some hm
     refine zI _ (wrap_u64 h153.1 (Int.lt_of_le_of_lt h153.2 (by decide))) ?_
     obtain ⟨h154, hm⟩ := need_some hm
     refine ops_R (v := .int .u64 (shlK .u64 1 p58)) (runs_shift (b := true) (k := .u64) (x := 1) (y := p58) (by kernel_rfl) h154) ?_
     refine zR 1 ?_
     obtain ⟨h156, hm⟩ := need_some hm
     have hk155 := lt_toNat h156
     refine ops_R (runs_index (a := a142) (n := (vflat q52 r133.2).length) (z := (placeOf 6 1 (2 + (19 : Int) % 20) (2 + 59 % 60) 0)) (size := 1) ((placeOf 6 1 (2 + (19 : Int) % 20) (2 + 59 % 60) 0).toNat) (nat_of h156.1) hk155 (kU64.addr (St.kcells kU64 hs150 0 rfl) hk155) (by kernel_rfl)) ?_
     refine ops_storeK kU64 (j := 0) (vs := [(zu (bits .or .u64 ((vflat q52 r133.2).getD ((placeOf 6 1 (2 + (19 : Int) % 20) (2 + 59 % 60) 0).toNat) 0) (shlK .u64 1 p58)))]) 0 (bits .or .u64 ((vflat q52 r133.2).getD ((placeOf 6 1 (2 + (19 : Int) % 20) (2 + 59 % 60) 0).toNat) 0) (shlK .u64 1 p58)) hs150 hk155 (Nat.le_of_ble_eq_true rfl) (by simp) rfl rfl (by kernel_rfl) (fun w157 hs158 => ?_)
     refine zD (hK147 _ _ ?_)
     refine W.region ?_
     refine zR 1 ?_
     obtain ⟨h160, hm⟩ := need_some hm
     refine zI _ (wrap_i64 h160.1 h160.2) ?_
     refine zE 1 ?_
     refine normal_block ?_
     refine hK72 _ _ ?_
     refine W.region ?_
     refine zR 1 ?_
     obtain ⟨h161, hm⟩ := need_some hm
     refine zI _ (wrap_i64 h161.1 h161.2) ?_
     refine zE 1 ?_
     have hs162 := St.f5 hs158
     have hs163 := St.f1 hs162
     have hs164 := St.f5 hs163
     have hs165 := St.f5 hs164
     have hs166 := St.f5 hs165
     have hs167 := St.tk5 hs166
     refine loopAt_next ?_
     exact ih61 (((vflat q52 r133.2).set ((placeOf 6 1 (2 + (19 : Int) % 20) (2 + 59 % 60) 0).toNat) (bits .or .u64 ((vflat q52 r133.2).getD ((placeOf 6 1 (2 + (19 : Int) % 20) (2 + 59 % 60) 0).toNat) 0) (shlK .u64 1 p58))), (vflat q52 r133.2).length, q126, n127, (p58 + 1), (p59 + 1), a142, c143, m124, m125) _ _ ⟨slots_intro _ (by kernel_rfl), hs167⟩ hm
    refine W.sr fun K168 hK168 => ?_
    refine zR 2 ?_
    obtain ⟨h170, hm⟩ := need_some hm
    have hk169 := lt_toNat h170
    refine ops_R (runs_index (a := ma) (n := ms.length) (z := p59) (size := 3) p59.toNat (nat_of h170.1) hk169 (kMk.addr (hs123.oldCells hmk) hk169) (by kernel_rfl)) ?_
    refine zR 1 ?_
    refine zL ((adr ma (p59.toNat * 3)).add 2) (.int .u8 ((ms.getD p59.toNat dMk).c2)) (kMk.at (hs123.oldCells hmk) hk169 dMk 2 rfl) ?_
    refine zE 2 (hK168 _ _ ?_)
    refine W.cond (!decide (((ms.getD p59.toNat dMk).c2).tmod 3 = 0)) (by kernel_rfl) (fun h171 => ?_) (fun h171 => ?_)
    rotate_left
    ·
     have h171p : ((ms.getD p59.toNat dMk).c2).tmod 3 = 0 := of_decide_eq_true (bnot_false h171)
     replace hm := ite_yes hm h171p
     refine W.skip ?_
     have hs172 := St.f5 hs123
     have hs173 := St.f1 hs172
     have hs174 := St.f2 hs173
     have hs175 := St.f6 hs174
     have hs176 := St.f6 hs175
     have hs177 := St.f6 hs176
     have hs178 := St.f6 hs177
     exact ⟨q56, n57, 1, 0, m54, m55, slots_intro _ (by kernel_rfl), hs178, hm⟩
    have h171p : ¬ (((ms.getD p59.toNat dMk).c2).tmod 3 = 0) := of_decide_eq_false (bnot_true h171)
    replace hm := ite_no hm h171p
    refine W.sr fun K179 hK179 => ?_
    refine zR 1 ?_
    obtain ⟨h180, hm⟩ := need_some hm
    refine zI _ (wrap_u64 h180.1 (Int.lt_of_le_of_lt h180.2 (by decide))) ?_
    refine zR 1 ?_
    refine zT 0 [(zu 2), (zu 1), (zu 0), (zu 0), (zu 0), (zu 0), (zu 0), (zu 0), (zu 0), (zu r89)] [(zu 2), (zu 1), (zu 0), (zu 0), (zu 0), (zu 0), (zu 0), (zu 0), (zu 0), (zu r89)] hs123 fun w181 hs183 => ?_
    refine zD (hK179 _ _ ?_)
    refine W.region ?_
    refine zR 2 ?_
    refine ops_new (fun b => .slice (some ⟨b, 0, none⟩) 1 1) (.cells [(zi p58)].toArray 3 (0, 0)) hs183 (by kernel_rfl) (fun b186 w184 hs185 => ?_)
    have hs187 := St.f7 hs185
    obtain ⟨h192, hm⟩ := need_some hm
    obtain ⟨h193, hm⟩ := need_some hm
    refine ops_appendKn kInt (bytes := 8) (a' := (some ⟨b186, 0, none⟩)) (c' := 1) (l := q56) (m := [p58]) hs187 h193 rfl (by kernel_rfl) (by simp) (cells_blk (hs187.heapAt 1 rfl)) (by unfold maxLen; (try simp only [List.length_cons, List.length_nil]); omega) (by (try simp only [List.length_cons, List.length_nil]); omega) (fun a188 c189 w190 hs191 => ?_)
    refine zE 1 ?_
    have hs194 := St.f7 hs191
    have hs195 := St.f3 hs194
    have hs196 := St.f4 hs195
    have hs197 := St.f3 hs196
    have hs198 := St.f7 hs197
    have hs199 := St.f7 hs198
    have hs200 := St.f7 hs199
    have hs201 := St.tk7 hs200
    exact ⟨(q56 ++ [p58]), ((q56 ++ [p58]).length), 2, r89, a188, c189, slots_intro _ (by kernel_rfl), hs201, hm⟩
   have h116p : ¬ (r105.1 = 0) := of_decide_eq_false (bnot_true h116)
   replace hm := ite_no hm h116p
   refine W.exit (exit_seq (exit_here ?_))
   refine hK72 _ _ ?_
   refine W.region ?_
   refine zR 1 ?_
   obtain ⟨h202, hm⟩ := need_some hm
   refine zI _ (wrap_i64 h202.1 h202.2) ?_
   refine zE 1 ?_
   have hs203 := St.f5 hs109
   have hs204 := St.f5 hs203
   have hs205 := St.f5 hs204
   have hs206 := St.f5 hs205
   have hs207 := St.f5 hs206
   have hs208 := St.tk5 hs207
   refine loopAt_next ?_
   exact ih61 (q52, n53, q56, n57, p58, (p59 + 1), m50, m51, m54, m55) _ _ ⟨slots_intro _ (by kernel_rfl), hs208⟩ hm
  obtain ⟨h71p, hm⟩ := iN hm h71
  refine W.exit (exit_seq (exit_seq (exit_here ?_)))
  have hs209 := St.f2 hs63
  have hs210 := St.f3 hs209
  have hs211 := St.f3 hs210
  have hs212 := St.f3 hs211
  have hs213 := St.tk4 hs212
  exact ⟨q52, n53, m50, m51, slots_intro _ (by kernel_rfl), hs213, hm⟩
 obtain ⟨h70p, hm⟩ := iN hm h70
 refine zS 22 h70 ?_
 refine zS 21 h70 ?_
 refine zE 5 (hK69 _ _ ?_)
 refine W.cond_false false (by kernel_rfl) rfl ?_
 refine W.exit (exit_seq (exit_seq (exit_here ?_)))
 have hs214 := St.f2 hs63
 have hs215 := St.f3 hs214
 have hs216 := St.f3 hs215
 have hs217 := St.f3 hs216
 have hs218 := St.tk4 hs217
 exact ⟨q52, n53, m50, m51, slots_intro _ (by kernel_rfl), hs218, hm⟩
end Go.Proofs.YtmmclabkkigiaaaGreat

namespace Go.Proofs.YtmmclabkkigiaaaGreat
open Go Go.RowKit
section
variable {gw gi gb n k : Int} {img : List Int} {l : List (Int × Int)}
theorem VI.iput (h : VI img l) {x : Nd} (hx : ∀ y ∈ x.list, U64 y) : VI img (iputM img l gw gi gb n x).2 := by
  unfold iputM
  split
  · split
    · exact VI.vwrites _ _ _ _ h hx
    · exact h
  · exact h
theorem VI.flatU (h : VI img l) : ∀ x ∈ vflat img l, U64 x := by
  intro x hx
  obtain ⟨j, hj, rfl⟩ := List.getElem_of_mem hx
  rw [vflat_length] at hj
  have h1 := vflat_get h.2 hj
  have h2 := h.1 (j : Int)
  rw [← h1] at h2
  have hj2 : j < (vflat img l).length := by rw [vflat_length]; exact hj
  simpa [List.getD, hj2] using h2
theorem iget_m (hv : VI img l) (h0 : (igetM img l gw gi gb n).2 = 0) : 0 ≤ (igetM img l gw gi gb n).1.m ∧ (igetM img l gw gi gb n).1.m < gi := by
  unfold igetM at h0 ⊢
  split at h0
  · rename_i h1
    rw [if_pos h1]
    split at h0
    · rename_i hR
      rw [if_pos hR]
      exact ⟨(hv.1 _).1, hR.2.1.2.2.2.2.2⟩
    · cases h0
  · rename_i h1
    exact absurd h0 h1
end
theorem or_u64 {x y : Int} (hx : U64 x) (hy : U64 y) : U64 (bits .or .u64 x y) := bits_u64 hx hy
theorem one_u64 {p : Int} (hp : 0 ≤ p ∧ p < 64) : U64 (shlK .u64 1 p) := by
  rw [shl_one hp]
  exact pow_u64 (by omega)
end Go.Proofs.YtmmclabkkigiaaaGreat

namespace Go.Proofs.YtmmclabkkigiaaaGreat
open Go Go.RowKit
section
variable {img : List Int} {l : List (Int × Int)}
theorem may_tree : May 1 21 61 := by unfold May; omega
theorem ifind_at {i : Int} (hl : img.length = 1312) (hi : 1 ≤ i ∧ i < 21) : ifind img.length 1 21 61 i = (488 + 16 * i, 0) := by
  unfold ifind
  rw [place8_in may_tree (by omega), words_may may_tree, hl, if_neg (by omega), if_neg (by omega)]
  exact congrArg (·, 0) (by omega)
theorem iget_at {i : Int} (hl : img.length = 1312) (hi : 1 ≤ i ∧ i < 21) : igetM img l 1 21 61 i = if RightP 1 21 61 (ndAt img l (488 + 16 * i)) then (ndAt img l (488 + 16 * i), 0) else (.zero, 4) := by
  unfold igetM
  rw [ifind_at hl hi]
  rfl
theorem iget_in {i : Int} (h : (igetM img l 1 21 61 i).2 = 0) : 1 ≤ i ∧ i < 21 := by
  by_cases hi : 1 ≤ i ∧ i < 21
  · exact hi
  · exfalso
    have hp : placeOf 8 1 21 61 i < 0 ∨ i = 0 := by
      rcases place8_cases 1 21 61 i with ⟨a, _⟩ | ⟨_, a, _⟩
      · exact .inl (by omega)
      · exact .inr (by omega)
    unfold igetM ifind at h
    rw [if_pos hp] at h
    cases h
theorem iget_bad {i : Int} (hl : img.length = 1312) (hi : 1 ≤ i ∧ i < 21) (h : (igetM img l 1 21 61 i).2 ≠ 0) : igetM img l 1 21 61 i = (.zero, 4) := by
  rw [iget_at hl hi] at h ⊢
  split at h
  · exact absurd rfl h
  · rename_i hR
    rw [if_neg hR]
theorem vwrite_ok {a x : Int} (h : l.length < 96) (ha : 0 ≤ a ∧ a < (img.length : Int)) : (vwrite img l a x).1 = 0 := by
  unfold vwrite
  rw [if_neg (by omega)]
  split
  · rfl
  · unfold vput
    rw [if_pos ha]
    cases vlook l a with
    | some y => rfl
    | none =>
      simp only
      rw [if_neg (by omega)]
theorem vwrites_got (at_ : Int) : ∀ (xs : List Int) (i : Int) (l : List (Int × Int)), l.length + xs.length ≤ 96 → 0 ≤ at_ + i → at_ + i + (xs.length : Int) ≤ (img.length : Int) → ∀ j : Nat, j < xs.length → vget img (vwrites img at_ l i xs).2 (at_ + i + (j : Int)) = xs.getD j 0
  | [], _, _, _, _, _, _, hj => absurd hj (Nat.not_lt_zero _)
  | x :: xs, i, l, h1, h2, h3, j, hj => by
    simp only [List.length_cons] at h1 h3 hj
    have h0 : (vwrite img l (at_ + i) x).1 = 0 := vwrite_ok (by omega) (by omega)
    have hl := vwrite_len1 (img := img) (l := l) (at_ + i) x
    unfold vwrites
    rw [if_pos h0]
    cases j with
    | zero =>
      rw [vwrites_fr at_ xs (i + 1) _ _ (by omega), show at_ + i + ((0 : Nat) : Int) = at_ + i by omega, vwrite_got h0]
      rfl
    | succ j =>
      have := vwrites_got at_ xs (i + 1) (vwrite img l (at_ + i) x).2 (by omega) (by omega) (by omega) j (by omega)
      rw [show at_ + i + ((j + 1 : Nat) : Int) = at_ + (i + 1) + (j : Int) by omega, this]
      rfl
theorem vwrites_out (at_ : Int) : ∀ (xs : List Int) (i : Int) (l : List (Int × Int)) (z : Int), (z < at_ + i ∨ at_ + i + (xs.length : Int) ≤ z) → vget img (vwrites img at_ l i xs).2 z = vget img l z
  | [], _, _, _, _ => rfl
  | x :: xs, i, l, z, h => by
    simp only [List.length_cons] at h
    unfold vwrites
    split
    · rw [vwrites_out at_ xs (i + 1) _ z (by omega)]
      exact vget_vwrite (by omega)
    · exact vget_vwrite (by omega)
theorem vget_set {k z v : Int} (hk : 0 ≤ k) (h : z ≠ k) : vget (img.set k.toNat v) [] z = vget img [] z := by
  unfold vget
  rw [List.length_set]
  split
  · simp only [show vlook [] z = none from rfl, Option.getD_none, List.getD_eq_getElem?_getD]
    rw [List.getElem?_set_ne (by omega)]
  · rfl
end
structure TI (q : List Int) (p : Int) : Prop where
  len : q.length = 1312
  u : ∀ x ∈ q, U64 x
  root : (igetM q [] 1 21 61 1).2 = 0 ∧ (igetM q [] 1 21 61 1).1.k = 2 ∧ (igetM q [] 1 21 61 1).1.m = 0
  rest : ∀ i, 2 ≤ i → i < 21 → (igetM q [] 1 21 61 i).2 = 0 → i < p ∧ (((igetM q [] 1 21 61 i).1.k = 1 ∧ (igetM q [] 1 21 61 i).1.m = 0) ∨
    ((igetM q [] 1 21 61 i).1.k = 2 ∧ (1 ≤ (igetM q [] 1 21 61 i).1.m ∧ (igetM q [] 1 21 61 i).1.m < i) ∧ (igetM q [] 1 21 61 (igetM q [] 1 21 61 i).1.m).2 = 0 ∧ (igetM q [] 1 21 61 (igetM q [] 1 21 61 i).1.m).1.k = 2))
theorem TI.step {q q2 : List Int} {p d kd pa : Int} (h : TI q p) (hp : 2 ≤ p ∧ p < 21) (hd : 1 ≤ d ∧ d < p) (h0 : (igetM q [] 1 21 61 d).2 = 0) (hk : (igetM q [] 1 21 61 d).1.k = 2) (hl : q2.length = 1312) (hu : ∀ x ∈ q2, U64 x)
    (hfr : ∀ z, 488 ≤ z → z < 824 → ¬ (488 + 16 * p ≤ z ∧ z < 488 + 16 * p + 10) → vget q2 [] z = vget q [] z ∨ ((492 + 16 * d ≤ z ∧ z ≤ 496 + 16 * d) ∧ vget q2 [] z < 61))
    (hw : ∀ j : Nat, j < 10 → vget q2 [] (488 + 16 * p + (j : Int)) = (Nd.list ⟨kd, 1, 0, 0, 0, 0, 0, 0, 0, pa⟩).getD j 0)
    (hkd : kd = 1 ∧ pa = 0 ∨ kd = 2 ∧ pa = d) : TI q2 (p + 1) := by
  have W : ∀ i : Int, 1 ≤ i ∧ i < 21 → i ≠ p → ∀ j : Int, 0 ≤ j → j < 10 → vget q2 [] (488 + 16 * i + j) = vget q [] (488 + 16 * i + j) ∨ (i = d ∧ (4 ≤ j ∧ j ≤ 8) ∧ vget q2 [] (488 + 16 * i + j) < 61) := by
    intro i hi hip j hj hj2
    rcases hfr (488 + 16 * i + j) (by omega) (by omega) (by omega) with a | ⟨a, b⟩
    · exact .inl a
    · exact .inr ⟨by omega, by omega, b⟩
  have A : ∀ i : Int, 1 ≤ i ∧ i < 21 → i ≠ p → i ≠ d → igetM q2 [] 1 21 61 i = igetM q [] 1 21 61 i := by
    intro i hi hip hid
    have w : ∀ j : Int, 0 ≤ j → j < 10 → vget q2 [] (488 + 16 * i + j) = vget q [] (488 + 16 * i + j) := fun j a b => by
      rcases W i hi hip j a b with e | ⟨e, _⟩
      · exact e
      · exact absurd e hid
    have e : ndAt q2 [] (488 + 16 * i) = ndAt q [] (488 + 16 * i) := by
      unfold ndAt
      rw [w 0 (by omega) (by omega), w 1 (by omega) (by omega), w 2 (by omega) (by omega), w 3 (by omega) (by omega), w 4 (by omega) (by omega), w 5 (by omega) (by omega), w 6 (by omega) (by omega), w 7 (by omega) (by omega), w 8 (by omega) (by omega), w 9 (by omega) (by omega)]
    rw [iget_at hl hi, iget_at h.len hi, e]
  have B : (igetM q2 [] 1 21 61 d).2 = 0 ∧ (igetM q2 [] 1 21 61 d).1.k = (igetM q [] 1 21 61 d).1.k ∧ (igetM q2 [] 1 21 61 d).1.m = (igetM q [] 1 21 61 d).1.m := by
    have hdi : 1 ≤ d ∧ d < 21 := by omega
    rw [iget_at h.len hdi] at h0 hk ⊢
    rw [iget_at hl hdi]
    split at h0
    · rename_i hR
      rw [if_pos hR]
      obtain ⟨r1, ⟨r2, r3, r4, r5, r6, r7⟩, ⟨r8, r9, r10⟩, r11⟩ := hR
      have same : ∀ j : Int, 0 ≤ j → j < 4 ∨ j = 9 → vget q2 [] (488 + 16 * d + j) = vget q [] (488 + 16 * d + j) := fun j a b => by
        rcases W d hdi (by omega) j a (by omega) with e | ⟨_, e, _⟩
        · exact e
        · omega
      have low : ∀ j : Int, 4 ≤ j → j ≤ 8 → vget q [] (488 + 16 * d + j) < 61 → vget q2 [] (488 + 16 * d + j) < 61 := fun j a b c => by
        rcases W d hdi (by omega) j (by omega) (by omega) with e | ⟨_, _, e⟩
        · rw [e]; exact c
        · exact e
      have s0 := same 0 (by omega) (by omega)
      have s1 := same 1 (by omega) (by omega)
      have s2 := same 2 (by omega) (by omega)
      have s3 := same 3 (by omega) (by omega)
      have s9 := same 9 (by omega) (by omega)
      have R2 : RightP 1 21 61 (ndAt q2 [] (488 + 16 * d)) := by
        refine ⟨r1, ⟨low 4 (by omega) (by omega) r2, low 5 (by omega) (by omega) r3, low 6 (by omega) (by omega) r4, low 7 (by omega) (by omega) r5, low 8 (by omega) (by omega) r6, ?_⟩, ⟨?_, ?_, ?_⟩, ?_⟩
        · unfold ndAt at r7 ⊢; simp only at r7 ⊢; rw [s9]; exact r7
        · unfold ndAt at r8 ⊢; simp only at r8 ⊢; rw [s1]; exact r8
        · unfold ndAt at r9 ⊢; simp only at r9 ⊢; rw [s2]; exact r9
        · unfold ndAt at r10 ⊢; simp only at r10 ⊢; rw [s3]; exact r10
        · unfold ndAt at r11 ⊢; simp only at r11 ⊢; rw [s0, s3, s9]; exact r11
      rw [if_pos R2]
      exact ⟨rfl, s0, s9⟩
    · cases h0
  have E : ∀ i : Int, 1 ≤ i ∧ i < 21 → i ≠ p → (igetM q2 [] 1 21 61 i).2 = 0 → (igetM q [] 1 21 61 i).2 = 0 := by
    intro i hi hip e
    by_cases hid : i = d
    · rw [hid]; exact h0
    · rw [← A i hi hip hid]; exact e
  have F : ∀ i : Int, 1 ≤ i ∧ i < 21 → i ≠ p → (igetM q [] 1 21 61 i).2 = 0 → (igetM q2 [] 1 21 61 i).2 = 0 ∧ (igetM q2 [] 1 21 61 i).1.k = (igetM q [] 1 21 61 i).1.k ∧ (igetM q2 [] 1 21 61 i).1.m = (igetM q [] 1 21 61 i).1.m := by
    intro i hi hip e
    by_cases hid : i = d
    · rw [hid]; exact B
    · rw [A i hi hip hid]; exact ⟨e, rfl, rfl⟩
  have C : igetM q2 [] 1 21 61 p = (⟨kd, 1, 0, 0, 0, 0, 0, 0, 0, pa⟩, 0) := by
    have e : ndAt q2 [] (488 + 16 * p) = ⟨kd, 1, 0, 0, 0, 0, 0, 0, 0, pa⟩ := by
      unfold ndAt
      rw [show (0 : Int) = ((0 : Nat) : Int) from rfl, show (1 : Int) = ((1 : Nat) : Int) from rfl, show (2 : Int) = ((2 : Nat) : Int) from rfl, show (3 : Int) = ((3 : Nat) : Int) from rfl, show (4 : Int) = ((4 : Nat) : Int) from rfl, show (5 : Int) = ((5 : Nat) : Int) from rfl, show (6 : Int) = ((6 : Nat) : Int) from rfl, show (7 : Int) = ((7 : Nat) : Int) from rfl, show (8 : Int) = ((8 : Nat) : Int) from rfl, show (9 : Int) = ((9 : Nat) : Int) from rfl,
        hw 0 (by omega), hw 1 (by omega), hw 2 (by omega), hw 3 (by omega), hw 4 (by omega), hw 5 (by omega), hw 6 (by omega), hw 7 (by omega), hw 8 (by omega), hw 9 (by omega)]
      rfl
    rw [iget_at hl (by omega), e, if_pos]
    refine ⟨may_tree, ⟨?_, ?_, ?_, ?_, ?_, ?_⟩, ⟨?_, ?_, ?_⟩, hkd.imp id fun x => ⟨x.1, rfl⟩⟩ <;> simp only <;> omega
  refine ⟨hl, hu, ?_, fun i hi hi2 e => ?_⟩
  · obtain ⟨a, b, c⟩ := h.root
    obtain ⟨a2, b2, c2⟩ := F 1 (by omega) (by omega) a
    exact ⟨a2, by rw [b2]; exact b, by rw [c2]; exact c⟩
  · by_cases hip : i = p
    · subst hip
      rw [C]
      simp only
      refine ⟨by omega, ?_⟩
      rcases hkd with x | ⟨x, y⟩
      · exact .inl x
      · refine .inr ⟨x, by omega, ?_⟩
        rw [y]
        exact ⟨B.1, by rw [B.2.1]; exact hk⟩
    · have e0 := E i (by omega) hip e
      obtain ⟨_, f1, f2⟩ := F i (by omega) hip e0
      obtain ⟨g1, g2⟩ := h.rest i hi hi2 e0
      refine ⟨by omega, ?_⟩
      rw [f1, f2]
      rcases g2 with g2 | ⟨g2, g3, g4, g5⟩
      · exact .inl g2
      · obtain ⟨i1, i2, i3⟩ := F _ (by omega) (by omega) g4
        exact .inr ⟨g2, g3, i1, by rw [i2]; exact g5⟩
theorem TI.begin : TI (fmtW 1 21 61) 2 := by
  have hl : (fmtW 1 21 61).length = 1312 := by rw [fmtW_len, words_may may_tree]; rfl
  refine ⟨hl, fun x hx => fmtW_u64 x hx, by decide +kernel, fun i hi hi2 e => ?_⟩
  have key : ∀ j : Fin 21, 2 ≤ j.val → (igetM (fmtW 1 21 61) [] 1 21 61 (j.val : Int)).2 ≠ 0 := by decide +kernel
  have := key ⟨i.toNat, by omega⟩ (by simp only; omega)
  simp only at this
  rw [show ((i.toNat : Nat) : Int) = i by omega] at this
  exact absurd e this
theorem tree_TI {ms : List TMk} (hm : ∀ x ∈ ms, good_Mk x) (hn : ms.length ≤ 40) : Ok (fun ws : List Int => ∃ p, TI ws p) (tree_M ms) := by
  have hM := may_tree
  have hp6 : placeOf 6 1 21 61 0 = 472 := place6 hM
  unfold tree_M
  refine Ok.need (by omega) (Ok.need (by omega) ?_)
  rw [show (2 : Int) + 19 % 20 = 21 by omega, show (2 : Int) + 59 % 60 = 61 by omega]
  refine Ok.iter (fun s : List Int × Nat × List Int × Nat × Int × Int => (s.2.1 = s.1.length ∧ TI s.1 s.2.2.2.2.1) ∧ (s.2.2.2.1 = s.2.2.1.length ∧ 1 ≤ s.2.2.1.length ∧ (s.2.2.1.length : Int) ≤ s.2.2.2.2.1 ∧ ∀ x ∈ s.2.2.1, 1 ≤ x ∧ x < s.2.2.2.2.1) ∧ (2 ≤ s.2.2.2.2.1 ∧ s.2.2.2.2.1 ≤ 21) ∧ 0 ≤ s.2.2.2.2.2) (fun s => ((ms.length : Int) - s.2.2.2.2.2).toNat) ?_ _ _
    ⟨⟨rfl, TI.begin⟩, ⟨rfl, by simp, by simp, fun x hx => by simp at hx; simp only; omega⟩, by simp, by simp⟩ (fuel_lt (by simp only; omega))
  rintro k ⟨q, n, ds, m, p, i⟩ ⟨⟨h1, hT⟩, ⟨h4, h5, h6, h7⟩, h8, h9⟩ ih
  simp only at h1 hT h4 h5 h6 h7 h8 h9 ih
  have h2 := hT.len
  have h3 := hT.u
  show Ok _ (tree_B0 ms k q n ds m p i)
  have J1 : Ok (fun ws : List Int => ∃ p, TI ws p) (tree_J1 q n) := by
    unfold tree_J1
    exact Ok.need h1 (Ok.some ⟨p, hT⟩)
  unfold tree_B0
  rw [show (2 : Int) + 19 % 20 = 21 by omega, show (2 : Int) + 59 % 60 = 61 by omega]
  refine Ok.ite (fun hi => Ok.ite (fun hp => ?_) fun _ => J1) fun _ => J1
  have hg : good_Mk (ms.getD i.toNat dMk) := by
    have hil : i.toNat < ms.length := by omega
    have : ms.getD i.toNat dMk ∈ ms := by rw [List.getD_eq_getElem?_getD, List.getElem?_eq_getElem hil]; exact List.getElem_mem hil
    exact hm _ this
  have hg0 := hg.1
  have hd0 : (0 : Int) < (m : Int) := by omega
  have et : ((ms.getD i.toNat dMk).c0).tmod (m : Int) = ((ms.getD i.toNat dMk).c0) % (m : Int) := Int.tmod_eq_emod_of_nonneg (by omega)
  have e1 := Int.emod_nonneg ((ms.getD i.toNat dMk).c0) (show (m : Int) ≠ 0 by omega)
  have e2 := Int.emod_lt_of_pos ((ms.getD i.toNat dMk).c0) hd0
  rw [et]
  refine Ok.need h1 (Ok.need (by omega) (Ok.need (by omega) (Ok.need (by omega) (Ok.need (by omega) (Ok.need (by omega) (Ok.need (by omega) (Ok.name fun d hd => ?_)))))))
  have hdm : d ∈ ds := by
    rw [hd]
    have hlt : (((ms.getD i.toNat dMk).c0) % (m : Int)).toNat < ds.length := by omega
    rw [List.getD_eq_getElem?_getD, List.getElem?_eq_getElem hlt]
    exact List.getElem_mem hlt
  have hdr := h7 d hdm
  have hVI : VI q [] := VI.nil h3 (by omega)
  obtain ⟨r, a1, a2, a3, a4, a5⟩ := radd_ok (gw := 1) (gi := 21) (gb := 61) (n := d) hVI (by omega) (((ms.getD i.toNat dMk).c1).extract 0 (mn (((ms.getD i.toNat dMk).c1).size : Int) 50).toNat) p
  have hmn : 0 ≤ mn (((ms.getD i.toNat dMk).c1).size : Int) 50 ∧ mn (((ms.getD i.toNat dMk).c1).size : Int) 50 ≤ (((ms.getD i.toNat dMk).c1).size : Int) := by unfold mn; split <;> omega
  refine Ok.need (by omega) (Ok.need (by omega) (Ok.need (by omega) (Ok.got15 a1 (Ok.ite (fun hr => Ok.need (by omega) ?_) fun _ => Ok.need (by omega) (ih _ ⟨⟨h1, hT⟩, ⟨h4, h5, h6, h7⟩, h8, by simp only; omega⟩ (by simp only; omega))))))
  obtain ⟨hd1, hd2⟩ := a5 hr
  have J3 : ∀ (kd pa : Int) (ds' : List Int), U64 kd → U64 pa → (kd = 1 ∧ pa = 0 ∨ kd = 2 ∧ pa = d) → (1 ≤ ds'.length ∧ (ds'.length : Int) ≤ p + 1 ∧ ∀ x ∈ ds', 1 ≤ x ∧ x < p + 1) → Ok (fun ws : List Int => ∃ p, TI ws p) (tree_J3 k q p i r ds' ds'.length kd pa) := by
    intro kd pa ds' hkd hpa hcase hds
    unfold tree_J3
    rw [show (2 : Int) + 19 % 20 = 21 by omega, show (2 : Int) + 59 % 60 = 61 by omega, hp6]
    refine Ok.name fun z hz => ?_
    have hzV : VI q z.2 := by
      rw [hz]
      refine a2.iput fun y hy => ?_
      unfold Nd.list at hy
      simp only [List.mem_cons, List.not_mem_nil, or_false] at hy
      rcases hy with rfl | rfl | rfl | rfl | rfl | rfl | rfl | rfl | rfl | rfl
      all_goals first | exact hkd | exact hpa | (unfold U64; omega)
    have hze : z.2 = (vwrites q (488 + 16 * p) r.2 0 (Nd.list ⟨kd, 1, 0, 0, 0, 0, 0, 0, 0, pa⟩)).2 := by
      rw [hz]
      unfold iputM
      rw [if_pos, ifind_at h2 (by omega)]
      · rfl
      · refine ⟨may_tree, ⟨?_, ?_, ?_, ?_, ?_, ?_⟩, ⟨?_, ?_, ?_⟩, hcase.imp id fun x => ⟨x.1, rfl⟩⟩ <;> simp only <;> omega
    have hfl := vflat_length q z.2
    have hset : ∀ (y v : Int), 488 ≤ y → vget ((vflat q z.2).set (472 : Int).toNat v) [] y = vget q z.2 y := fun y v hy => by
      rw [vget_set (by omega) (by omega)]
      exact vget_flat hzV.2 y
    refine Ok.need (by omega) (Ok.need (by omega) (Ok.need (by omega) (Ok.need (by omega) (Ok.need (by omega) (Ok.need (by omega) (ih _ ⟨⟨by simp only [List.length_set], ?_⟩, ⟨rfl, hds.1, hds.2.1, hds.2.2⟩, by simp only; omega, by simp only; omega⟩ (by simp only; omega)))))))
    refine TI.step (d := d) (kd := kd) (pa := pa) hT (by omega) (by omega) hd1 hd2 (by simp only [List.length_set]; omega) (fun x hx => ?_) (fun y y1 y2 y3 => ?_) (fun j hj => ?_) hcase
    · rcases List.mem_or_eq_of_mem_set hx with w | w
      · exact hzV.flatU x w
      · rw [w]
        have : U64 ((vflat q z.2).getD (472 : Int).toNat 0) := by
          have hlt : (472 : Int).toNat < (vflat q z.2).length := by rw [hfl, h2]; decide
          have hmem : (vflat q z.2).getD (472 : Int).toNat 0 ∈ vflat q z.2 := by rw [List.getD_eq_getElem?_getD, List.getElem?_eq_getElem hlt]; exact List.getElem_mem hlt
          exact hzV.flatU _ hmem
        exact or_u64 this (one_u64 (by omega))
    · simp only
      rw [hset y _ y1, hze, vwrites_out _ _ _ _ _ (by rw [show (Nd.list ⟨kd, 1, 0, 0, 0, 0, 0, 0, 0, pa⟩).length = 10 from rfl]; omega)]
      rcases a3 y (by omega) (by omega) with w | ⟨w1, w2⟩
      · exact .inl w
      · exact .inr ⟨by omega, w2⟩
    · simp only
      rw [hset _ _ (by omega), hze]
      have h10 : (Nd.list ⟨kd, 1, 0, 0, 0, 0, 0, 0, 0, pa⟩).length = 10 := rfl
      have := vwrites_got (img := q) (488 + 16 * p) (Nd.list ⟨kd, 1, 0, 0, 0, 0, 0, 0, 0, pa⟩) 0 r.2 (by rw [h10]; simp only [List.length_nil] at a4; omega) (by omega) (by rw [h10]; omega) j (by rw [h10]; exact hj)
      rw [Int.add_zero] at this
      exact this
  refine Ok.ite (fun _ => ?_) fun _ => ?_
  · have := J3 1 0 ds (by unfold U64; omega) u64_zero (.inl ⟨rfl, rfl⟩) ⟨h5, by omega, fun x hx => by have := h7 x hx; omega⟩
    rw [← h4] at this
    exact this
  · refine Ok.need (by omega) (Ok.need (by omega) (Ok.need h4 (J3 2 d (ds ++ [p]) (by unfold U64; omega) (by unfold U64; omega) (.inr ⟨rfl, rfl⟩) ⟨by rw [List.length_append]; omega, by rw [List.length_append]; simp only [List.length_cons, List.length_nil]; omega, fun x hx => ?_⟩)))
    rcases List.mem_append.1 hx with w | w
    · have := h7 x w; omega
    · rw [List.mem_singleton] at w
      omega
end Go.Proofs.YtmmclabkkigiaaaGreat

set_option maxRecDepth 20000
namespace Go.Proofs.YtmmclabkkigiaaaGreat
open Go Go.RowKit
def sequal_B0 (xs : List ByteArray) (ys : List ByteArray) (k8 : Int → Option (Bool)) (p7 : Int) : Option (Bool) :=
 if p7 < (xs.length : Int) then (need (0 ≤ p7 ∧ p7 < (xs.length : Int)) <|
need (0 ≤ p7 ∧ p7 < (ys.length : Int)) <|
if ((xs.getD p7.toNat ByteArray.empty).toList == (ys.getD p7.toNat ByteArray.empty).toList) = true then (need (-9223372036854775808 ≤ (p7 + 1) ∧ (p7 + 1) ≤ 9223372036854775807) <|
k8 (p7 + 1)) else (some false)) else (some true)
def sequal_M (xs : List ByteArray) (ys : List ByteArray) : Option (Bool) :=
 if (xs.length : Int) = (ys.length : Int) then (iter (fun k_ s_ => sequal_B0 xs ys k_ s_) FUEL 0) else (some false)
theorem sequal_walk {xs : List ByteArray} {ys : List ByteArray} {xa ya : Option Addr} {xc yc : Nat} {r : Bool} (B : Nat) (w : World) (hx : CellsAt xa (kStr.cells xs) w) (hy : CellsAt ya (kStr.cells ys) w) (hm : sequal_M xs ys = some r) : Spec Tryz.prog 41 #[(.slice xa xs.length xc), (.slice ya ys.length yc)] B w [] (fun v H' => v = .bool r ∧ H' = []) := by
 refine spec_Q Tryz.func41 rfl fun hs => ?_
 unfold sequal_M at hm
 refine W.sr fun K1 hK1 => ?_
 refine zE 1 (hK1 _ _ ?_)
 refine W.seq fun K2 hK2 => ?_
 refine W.sr fun K3 hK3 => ?_
 refine zE 5 (hK3 _ _ ?_)
 refine W.cond (!decide ((xs.length : Int) = (ys.length : Int))) (by kernel_rfl) (fun h4 => ?_) (fun h4 => ?_)
 rotate_left
 ·
  have h4p : (xs.length : Int) = (ys.length : Int) := of_decide_eq_true (bnot_false h4)
  replace hm := ite_yes hm h4p
  refine W.skip ?_
  refine hK2 _ _ ?_
  refine W.seq fun K5 hK5 => ?_
  refine W.sr fun K6 hK6 => ?_
  refine zE 3 (hK6 _ _ ?_)
  refine W.block ?_
  refine W.loop_iter (G := Int) (σ := Int) (fun | p7 => p7) (fun | p7, s_, w_ => (∃ us, s_ = slots 26 [(0, (.slice xa xs.length xc)), (1, (.slice ya ys.length yc)), (12, (zi (xs.length : Int))), (13, (zi p7))] us) ∧ St B w [] w_ []) 0 ⟨slots_intro _ (by kernel_rfl), hs⟩ hm ?_
  rintro k8 ih9 p7 _ w10 ⟨⟨us, rfl⟩, hs11⟩ hm
  replace hm : sequal_B0 xs ys k8 p7 = some r := hm
  unfold sequal_B0 at hm
  refine W.sr fun K12 hK12 => ?_
  refine zE 1 (hK12 _ _ ?_)
  refine W.seq fun K13 hK13 => ?_
  refine W.cond (decide (p7 < (xs.length : Int))) (by kernel_rfl) (fun h14 => ?_) (fun h14 => ?_)
  ·
   obtain ⟨h14p, hm⟩ := iY hm h14
   refine W.skip ?_
   refine hK13 _ _ ?_
   refine W.seq fun K15 hK15 => ?_
   refine W.block ?_
   refine W.sr fun K16 hK16 => ?_
   refine zE 2 (hK16 _ _ ?_)
   refine W.seq fun K17 hK17 => ?_
   have hs18 := hs11.drew
   refine W.regionD [(0, 0), (0, 0), (3, 3), (4, 4), (0, 0), (0, 0), (48, 48), (64, 64), (136, 136)] (fun w_ => St B w [] w_ []) (by kernel_rfl) hs18 ?_
   refine zA (.slice xa xs.length xc) 0 hs18 ?_
   refine zA (zi p7) 1 hs18 ?_
   obtain ⟨h20, hm⟩ := need_some hm
   have hk19 := lt_toNat h20
   refine any_R 2 (by kernel_rfl) (fun _ hS_ => runs_index (a := xa) (n := xs.length) (z := p7) (size := 1) p7.toNat (nat_of h20.1) hk19 (kStr.addr (hs18.oldCells hx) hk19) (by kernel_rfl)) hs18 ?_
   refine zB 3 ((adr xa (p7.toNat * 1)).add 0) (.string (xs.getD p7.toNat ByteArray.empty)) (fun _ hS_ => (kStr.at (hS_.oldCells hx) hk19 ByteArray.empty 0 rfl)) hs18 ?_
   refine zA (.slice ya ys.length yc) 4 hs18 ?_
   refine zA (zi p7) 5 hs18 ?_
   obtain ⟨h22, hm⟩ := need_some hm
   have hk21 := lt_toNat h22
   refine any_R 6 (by kernel_rfl) (fun _ hS_ => runs_index (a := ya) (n := ys.length) (z := p7) (size := 1) p7.toNat (nat_of h22.1) hk21 (kStr.addr (hs18.oldCells hy) hk21) (by kernel_rfl)) hs18 ?_
   refine zB 7 ((adr ya (p7.toNat * 1)).add 0) (.string (ys.getD p7.toNat ByteArray.empty)) (fun _ hS_ => (kStr.at (hS_.oldCells hy) hk21 ByteArray.empty 0 rfl)) hs18 ?_
   refine zA (.bool (!((xs.getD p7.toNat ByteArray.empty).toList == (ys.getD p7.toNat ByteArray.empty).toList))) 8 hs18 ?_
   refine any_done (by kernel_rfl) ?_
   refine hK17 _ _ ?_
   refine W.cond (!((xs.getD p7.toNat ByteArray.empty).toList == (ys.getD p7.toNat ByteArray.empty).toList)) (by kernel_rfl) (fun h23 => ?_) (fun h23 => ?_)
   rotate_left
   ·
    have h23p : ((xs.getD p7.toNat ByteArray.empty).toList == (ys.getD p7.toNat ByteArray.empty).toList) = true := (bnot_false h23)
    replace hm := ite_yes hm h23p
    refine W.skip ?_
    refine normal_block ?_
    refine hK15 _ _ ?_
    refine W.region ?_
    obtain ⟨h24, hm⟩ := need_some hm
    refine zI _ (wrap_i64 h24.1 h24.2) ?_
    refine zE 1 ?_
    refine loopAt_next ?_
    exact ih9 (p7 + 1) _ _ ⟨slots_intro _ (by kernel_rfl), hs18⟩ hm
   have h23p : ¬ (((xs.getD p7.toNat ByteArray.empty).toList == (ys.getD p7.toNat ByteArray.empty).toList) = true) := ne_true_of_eq_false (bnot_true h23)
   replace hm := ite_no hm h23p
   refine W.sr fun K25 hK25 => ?_
   refine zE 1 (hK25 _ _ ?_)
   refine W.ret (ret_block (ret_seq (ret_seq (ret_block (ret_seq ?_)))))
   obtain rfl := some_inj hm
   refine ret_of (.bool false) (by kernel_rfl) ⟨_, ⟨rfl, rfl⟩, hs18⟩
  obtain ⟨h14p, hm⟩ := iN hm h14
  refine W.exit (exit_seq (exit_seq (exit_here ?_)))
  refine hK5 _ _ ?_
  refine W.sr fun K26 hK26 => ?_
  refine zE 1 (hK26 _ _ ?_)
  refine W.ret ?_
  obtain rfl := some_inj hm
  refine ret_of (.bool true) (by kernel_rfl) ⟨_, ⟨rfl, rfl⟩, hs11⟩
 have h4p : ¬ ((xs.length : Int) = (ys.length : Int)) := of_decide_eq_false (bnot_true h4)
 replace hm := ite_no hm h4p
 refine W.sr fun K27 hK27 => ?_
 refine zE 1 (hK27 _ _ ?_)
 refine W.ret (ret_seq ?_)
 obtain rfl := some_inj hm
 refine ret_of (.bool false) (by kernel_rfl) ⟨_, ⟨rfl, rfl⟩, hs⟩
end Go.Proofs.YtmmclabkkigiaaaGreat

set_option maxRecDepth 20000
set_option maxHeartbeats 4000000
namespace Go.Proofs.YtmmclabkkigiaaaGreat
open Go Go.RowKit
def pjoin_M (xs : List ByteArray) : Option (ByteArray) :=
 need (xs.length ≤ 1000000) <|
need ((joinB xs).size ≤ 1000000000) <|
need ((ByteArray.mk #[47]).size + (joinB xs).size ≤ 9223372036854775807) <|
(psplit_M ((ByteArray.mk #[47]) ++ (joinB xs))).bind fun r12 =>
if r12.2 = 0 then ((sequal_M r12.1 xs).bind fun r20 =>
if r20 = true then (some ((ByteArray.mk #[47]) ++ (joinB xs))) else (some ByteArray.empty)) else (some ByteArray.empty)
theorem pjoin_walk {xs : List ByteArray} {xa : Option Addr} {xc : Nat} {r : ByteArray} (B : Nat) (w : World) (hx : CellsAt xa (kStr.cells xs) w) (hcap : xs.length ≤ xc) (hm : pjoin_M xs = some r) : Spec Tryz.prog 18 #[(.slice xa xs.length xc)] B w [] (fun v H' => v = .string r ∧ H' = []) := by
 refine spec_Q Tryz.func18 rfl fun hs => ?_
 unfold pjoin_M at hm
 refine W.sr fun K1 hK1 => ?_
 refine zE 1 (hK1 _ _ ?_)
 refine W.sr fun K2 hK2 => ?_
 refine zR 1 ?_
 obtain ⟨h3, hm⟩ := need_some hm
 obtain ⟨h4, hm⟩ := need_some hm
 refine zC00 hs (join_spec (xs := xs) (c := xc) (hx := (hs.oldCells hx)) (hc := hcap) (hn := h3) (hl := h4) B _) fun w5 hs7 => ?_
 obtain ⟨h8, hm⟩ := need_some hm
 refine ops_R (v := (.string ((ByteArray.mk #[47]) ++ (joinB xs)))) (runs_strAdd (a := (ByteArray.mk #[47])) (b := (joinB xs)) h8 (by kernel_rfl)) ?_
 refine zE 1 (hK2 _ _ ?_)
 refine W.sr fun K9 hK9 => ?_
 refine zR 1 ?_
 obtain ⟨r12, h13, hm⟩ := bind_some hm
 refine ops_call0 hs7 (by kernel_rfl) (psplit_walk (tx_ := ((ByteArray.mk #[47]) ++ (joinB xs))) (hm := h13) B _) ?_
 rintro _ _ w14 ⟨a10, c11, rfl, rfl⟩ hs15
 have hs16 := St.ap1 hs15
 refine zE 5 (hK9 _ _ ?_)
 refine W.seq fun K17 hK17 => ?_
 refine W.sr fun K18 hK18 => ?_
 refine zR 3 ?_
 rcases Bool.eq_false_or_eq_true (!decide (r12.2 = 0)) with h19 | h19
 rotate_left
 ·
  have h19p : r12.2 = 0 := of_decide_eq_true (bnot_false h19)
  replace hm := ite_yes hm h19p
  refine zS 16 h19 ?_
  refine zS 15 h19 ?_
  refine zR 2 ?_
  obtain ⟨r20, h21, hm⟩ := bind_some hm
  refine zC00 hs16 (sequal_walk (xs := r12.1) (ys := xs) (xc := c11) (yc := xc) (hx := (St.kcells kStr hs16 0 rfl)) (hy := (hs16.oldCells hx)) (hm := h21) B _) fun w22 hs24 => ?_
  refine zE 2 (hK18 _ _ ?_)
  refine W.cond (!r20) (by kernel_rfl) (fun h25 => ?_) (fun h25 => ?_)
  rotate_left
  ·
   have h25p : r20 = true := (bnot_false h25)
   replace hm := ite_yes hm h25p
   refine W.skip ?_
   refine hK17 _ _ ?_
   refine W.sr fun K26 hK26 => ?_
   refine zE 2 (hK26 _ _ ?_)
   refine W.ret ?_
   obtain rfl := some_inj hm
   have hs27 := St.tk0 hs24
   refine ret_of (.string ((ByteArray.mk #[47]) ++ (joinB xs))) (by kernel_rfl) ⟨_, ⟨rfl, rfl⟩, hs27⟩
  have h25p : ¬ (r20 = true) := ne_true_of_eq_false (bnot_true h25)
  replace hm := ite_no hm h25p
  refine W.sr fun K28 hK28 => ?_
  refine zE 1 (hK28 _ _ ?_)
  refine W.ret (ret_seq ?_)
  obtain rfl := some_inj hm
  have hs29 := St.tk0 hs24
  refine ret_of (.string ByteArray.empty) (by kernel_rfl) ⟨_, ⟨rfl, rfl⟩, hs29⟩
 have h19p : ¬ (r12.2 = 0) := of_decide_eq_false (bnot_true h19)
 replace hm := ite_no hm h19p
 refine zS 16 h19 ?_
 refine zS 15 h19 ?_
 refine zE 5 (hK18 _ _ ?_)
 refine W.cond_true true (by kernel_rfl) rfl ?_
 refine W.sr fun K30 hK30 => ?_
 refine zE 1 (hK30 _ _ ?_)
 refine W.ret (ret_seq ?_)
 obtain rfl := some_inj hm
 have hs31 := St.tk0 hs16
 refine ret_of (.string ByteArray.empty) (by kernel_rfl) ⟨_, ⟨rfl, rfl⟩, hs31⟩
end Go.Proofs.YtmmclabkkigiaaaGreat

namespace Go.Proofs.YtmmclabkkigiaaaGreat
open Go Go.RowKit
theorem sequal_eq (xs ys : List ByteArray) (h : xs.length ≤ 1000000) : sequal_M xs ys = some (decide (xs = ys)) := by
  unfold sequal_M
  by_cases hl : xs.length = ys.length
  · rw [if_pos (by omega)]
    refine iter_run (fun p : Int => 0 ≤ p ∧ p ≤ (xs.length : Int) ∧ ∀ j : Nat, j < p.toNat → xs.getD j ByteArray.empty = ys.getD j ByteArray.empty) (fun p => ((xs.length : Int) - p).toNat) ?_ _ _ ⟨by omega, by omega, fun j hj => absurd hj (Nat.not_lt_zero _)⟩ (fuel_lt (by omega))
    rintro k p ⟨h1, h2, h3⟩ ih
    unfold sequal_B0
    by_cases hp : p < (xs.length : Int)
    · rw [if_pos hp]
      refine need_of (by omega) (need_of (by omega) ?_)
      by_cases e : xs.getD p.toNat ByteArray.empty = ys.getD p.toNat ByteArray.empty
      · rw [if_pos (beq_toList.2 e)]
        refine need_of (by omega) (ih _ ⟨by omega, by omega, fun j hj => ?_⟩ (by omega))
        by_cases ej : j = p.toNat
        · rw [ej]; exact e
        · exact h3 j (by omega)
      · rw [if_neg fun q => e (beq_toList.1 q), decide_eq_false fun q => e (by rw [q])]
    · rw [if_neg hp, decide_eq_true]
      refine List.ext_getElem hl fun j a b => ?_
      have := h3 j (by omega)
      simpa [List.getD, a, b] using this
  · rw [if_neg (by omega), decide_eq_false fun q => hl (by rw [q])]
theorem fin_all : ∀ (ns : List (List UInt8)) (q : List ByteArray), (∀ x ∈ ns, mayB (bs x) = true) → fin q ns = (q ++ ns.map bs, 0)
  | [], q, _ => by unfold fin; simp
  | x :: ns, q, h => by
    unfold fin
    rw [if_pos (h x (by simp)), fin_all ns _ fun y hy => h y (by simp [hy])]
    simp
theorem fin_out : ∀ (ns : List (List UInt8)) (q : List ByteArray), ((∀ x ∈ ns, mayB (bs x) = true) ∧ fin q ns = (q ++ ns.map bs, 0)) ∨ ((∃ x ∈ ns, mayB (bs x) = false) ∧ fin q ns = ([], 13))
  | [], q => .inl ⟨fun x hx => by simp at hx, by unfold fin; simp⟩
  | x :: ns, q => by
    unfold fin
    cases hm : mayB (bs x) with
    | false =>
      rw [if_neg (by decide)]
      exact .inr ⟨⟨x, by simp, hm⟩, rfl⟩
    | true =>
      rw [if_pos rfl]
      rcases fin_out ns (q ++ [bs x]) with ⟨a, b⟩ | ⟨⟨y, a, b⟩, c⟩
      · refine .inl ⟨fun y hy => ?_, by rw [b]; simp⟩
        rcases List.mem_cons.1 hy with rfl | hy
        · exact hm
        · exact a y hy
      · exact .inr ⟨⟨y, by simp [a], b⟩, c⟩
theorem tail_cons (x : List UInt8) (r : List (List UInt8)) : Lib.joinTail [47] (x :: r) = 47 :: (x ++ Lib.joinTail [47] r) := by simp [Lib.joinTail]
theorem go_join : ∀ (l cur : List UInt8), Lib.joinTail [47] (go cur l) = 47 :: (cur ++ l)
  | [], cur => by unfold go; rw [tail_cons]; simp [Lib.joinTail]
  | b :: l, cur => by
    have hgo : go cur (b :: l) = if b = 47 then cur :: go [] l else go (cur ++ [b]) l := rfl
    rw [hgo]
    by_cases hb : b = 47
    · rw [if_pos hb, tail_cons, go_join l [], hb]
      simp
    · rw [if_neg hb, go_join l (cur ++ [b])]
      simp
theorem go_names : ∀ (r : List (List UInt8)) (x cur : List UInt8), 47 ∉ x → (∀ y ∈ r, 47 ∉ y) → go cur (x ++ Lib.joinTail [47] r) = (cur ++ x) :: r
  | [], [], cur, _, _ => by simp [Lib.joinTail, go]
  | y :: r, [], cur, _, h => by
    have ih := go_names r y [] (h y (by simp)) fun z hz => h z (by simp [hz])
    rw [tail_cons, List.nil_append]
    show (if (47 : UInt8) = 47 then cur :: go [] (y ++ Lib.joinTail [47] r) else _) = _
    rw [if_pos rfl, ih]
    simp
  | r, b :: x, cur, hx, h => by
    have hb : b ≠ 47 := fun e => hx (by simp [e])
    have ih := go_names r x (cur ++ [b]) (fun e => hx (by simp [e])) h
    show (if b = 47 then _ else go (cur ++ [b]) (x ++ Lib.joinTail [47] r)) = _
    rw [if_neg hb, ih]
    simp
termination_by r x => (r.length, x.length)
theorem go_ne (l cur : List UInt8) : go cur l ≠ [] := by
  induction l generalizing cur with
  | nil => simp [go]
  | cons b l ih =>
    have hgo : go cur (b :: l) = if b = 47 then cur :: go [] l else go (cur ++ [b]) l := rfl
    rw [hgo]
    split
    · simp
    · exact ih _
theorem may_slash {s : ByteArray} (h : mayB s = true) : 47 ∉ s.data.toList := by
  intro hm
  have hb := (mayB_iff.1 h).2.2.1
  unfold badB at hb
  rw [anyB] at hb
  have : (s.data.toList.any fun b => b == 47 || b == 0) = true := List.any_eq_true.2 ⟨47, hm, by decide⟩
  rw [this] at hb
  cases hb
def pjS (xs : List ByteArray) : ByteArray := ByteArray.mk #[47] ++ joinB xs
theorem data_append (a b : ByteArray) : (a ++ b).data.toList = a.data.toList ++ b.data.toList := by simp [ByteArray.data_append]
theorem pjS_data (x : ByteArray) (r : List ByteArray) : (pjS (x :: r)).data.toList = Lib.joinTail [47] ((x :: r).map (·.data.toList)) := by
  unfold pjS joinB
  rw [data_append, List.map_cons, Lib.join_cons, tail_cons]
  simp
theorem tail_len (ys : List (List UInt8)) (h : ∀ y ∈ ys, y.length ≤ 1000) : (Lib.joinTail [47] ys).length ≤ 1001 * ys.length := by
  induction ys with
  | nil => simp [Lib.joinTail]
  | cons y ys ih =>
    have h1 := h y (by simp)
    have h2 := ih fun z hz => h z (by simp [hz])
    rw [tail_cons]
    simp only [List.length_cons, List.length_append]
    omega
theorem pjS_size {xs : List ByteArray} (hn : xs.length ≤ 1000) (h : ∀ x ∈ xs, x.size ≤ 1000) : (pjS xs).size = 1 + (joinB xs).size ∧ (pjS xs).size ≤ 1001001 := by
  have e1 : (pjS xs).size = 1 + (joinB xs).size := by unfold pjS; rw [ByteArray.size_append]; rfl
  refine ⟨e1, ?_⟩
  cases xs with
  | nil => decide +kernel
  | cons x r =>
    have hd := pjS_data x r
    have hl := data_len (pjS (x :: r))
    have ht := tail_len ((x :: r).map (·.data.toList)) fun y hy => by
      obtain ⟨z, hz, rfl⟩ := List.mem_map.1 hy
      rw [data_len]
      exact h z hz
    rw [List.length_map] at ht
    rw [hd] at hl
    omega
def pj (xs : List ByteArray) : ByteArray := if xs.all mayB = true ∧ (pjS xs).size ≤ 200 then pjS xs else ByteArray.empty
theorem map_bs (xs : List ByteArray) : (xs.map (·.data.toList)).map bs = xs := by
  rw [List.map_map]
  induction xs with
  | nil => rfl
  | cons x xs ih =>
    rw [List.map_cons, ih]
    exact congrArg (· :: xs) (bs_data x)
theorem spl_join {xs : List ByteArray} (ha : xs.all mayB = true) (hs : (pjS xs).size ≤ 200) : spl (pjS xs) = (xs, 0) := by
  cases xs with
  | nil => decide +kernel
  | cons x r =>
    have hall : ∀ y ∈ x :: r, mayB y = true := fun y hy => List.all_eq_true.1 ha y hy
    have hd := pjS_data x r
    rw [List.map_cons, tail_cons] at hd
    have hsl : slashB (pjS (x :: r)) = true := by unfold slashB; rw [hd]; rfl
    have hne : pjS (x :: r) ≠ ByteArray.mk #[47] := fun e => by
      rw [e] at hd
      have h1 := (mayB_iff.1 (hall x (by simp))).1
      have hl := data_len x
      have h2 : ([] : List UInt8) = x.data.toList ++ Lib.joinTail [47] (r.map (·.data.toList)) := (List.cons.inj hd).2
      have := congrArg List.length h2
      simp only [List.length_nil, List.length_append] at this
      omega
    unfold spl
    rw [if_neg (by rintro (q | q); omega; rw [hsl] at q; cases q), if_neg hne, hd, List.drop_succ_cons, List.drop_zero,
      go_names _ _ _ (may_slash (hall x (by simp))) (fun y hy => by
        obtain ⟨z, hz, rfl⟩ := List.mem_map.1 hy
        exact may_slash (hall z (by simp [hz]))), List.nil_append, fin_all]
    · have := map_bs (x :: r)
      rw [List.map_cons] at this
      rw [this]
      rfl
    · intro y hy
      have : y ∈ (x :: r).map (·.data.toList) := by rw [List.map_cons]; exact hy
      obtain ⟨z, hz, rfl⟩ := List.mem_map.1 this
      rw [bs_data]
      exact hall z hz
theorem spl_all (tx : ByteArray) : ((spl tx).2 = 0 ∧ (spl tx).1.all mayB = true) ∨ spl tx = ([], 13) := by
  unfold spl
  split
  · exact .inr rfl
  · split
    · exact .inl ⟨rfl, rfl⟩
    · rcases fin_out (go [] (tx.data.toList.drop 1)) [] with ⟨a, b⟩ | ⟨_, b⟩
      · rw [b]
        refine .inl ⟨rfl, ?_⟩
        simp only [List.nil_append, List.all_eq_true]
        intro x hx
        obtain ⟨y, hy, rfl⟩ := List.mem_map.1 hx
        exact a y hy
      · exact .inr b
theorem spl_len (tx : ByteArray) : (spl tx).1.length ≤ 201 := by
  unfold spl
  split
  · simp
  · rename_i hq
    split
    · simp
    · rcases fin_out (go [] (tx.data.toList.drop 1)) [] with ⟨_, b⟩ | ⟨_, b⟩
      · rw [b]
        have key : ∀ (l cur : List UInt8), (go cur l).length ≤ l.length + 1 := by
          intro l
          induction l with
          | nil => intro cur; simp [go]
          | cons c l ih =>
            intro cur
            have hgo : go cur (c :: l) = if c = 47 then cur :: go [] l else go (cur ++ [c]) l := rfl
            rw [hgo]
            split
            · have := ih []; simp only [List.length_cons]; omega
            · have := ih (cur ++ [c]); simp only [List.length_cons]; omega
        have := key (tx.data.toList.drop 1) []
        simp only [List.nil_append, List.length_map]
        rw [List.length_drop, data_len] at this
        have : ¬ ((tx.size : Int) > 200) := fun z => hq (.inl z)
        omega
      · rw [b]; simp
theorem pjoin_eq {xs : List ByteArray} (hn : xs.length ≤ 1000) (h : ∀ x ∈ xs, x.size ≤ 1000) : pjoin_M xs = some (pj xs) := by
  obtain ⟨z1, z2⟩ := pjS_size hn h
  unfold pjoin_M
  refine need_of (by omega) (need_of (by omega) (need_of (by have : (ByteArray.mk #[47]).size = 1 := rfl; omega) ?_))
  show (psplit_M (pjS xs)).bind _ = _
  refine bind_of (psplit_eq _) ?_
  have hsl := spl_len (pjS xs)
  unfold pj
  by_cases hg : xs.all mayB = true ∧ (pjS xs).size ≤ 200
  · rw [if_pos hg, spl_join hg.1 hg.2, if_pos rfl]
    refine bind_of (sequal_eq _ _ (by simp only; omega)) ?_
    rw [decide_eq_true rfl, if_pos rfl]
    rfl
  · rw [if_neg hg]
    rcases spl_all (pjS xs) with ⟨a, b⟩ | a
    · rw [if_pos a]
      refine bind_of (sequal_eq _ _ (by omega)) ?_
      rw [decide_eq_false, if_neg (by decide)]
      intro e
      rw [e] at b
      refine hg ⟨b, ?_⟩
      by_cases h200 : (pjS xs).size ≤ 200
      · exact h200
      · have : spl (pjS xs) = ([], 13) := by unfold spl; rw [if_pos (.inl (by omega))]
        rw [this] at a
        cases a
    · rw [a]
      rfl
theorem mayB_no : mayB (bs []) = false := by decide +kernel
theorem head_of {tx : ByteArray} (h : slashB tx = true) : ∃ l, tx.data.toList = 47 :: l := by
  unfold slashB at h
  have h := of_decide_eq_true h
  cases hd : tx.data.toList with
  | nil => rw [hd] at h; cases h
  | cons b l => rw [hd] at h; simp at h; rw [h]; exact ⟨l, rfl⟩
theorem spl_yes {tx : ByteArray} (h : (spl tx).2 = 0) : ∃ l, tx.data.toList = 47 :: l ∧ tx.size ≤ 200 ∧ (spl tx).1.all mayB = true ∧ pjS (spl tx).1 = tx ∧ (l = [] ∨ (∃ b t, l = b :: t ∧ b ≠ 47)) := by
  have hne : ¬ ((tx.size : Int) > 200 ∨ slashB tx = false) := fun q => by
    unfold spl at h
    rw [if_pos q] at h
    cases h
  have hs : slashB tx = true := by
    cases hq : slashB tx with
    | true => rfl
    | false => exact absurd (.inr hq) hne
  obtain ⟨l, hl⟩ := head_of hs
  have ha : (spl tx).1.all mayB = true := by
    rcases spl_all tx with ⟨_, a⟩ | a
    · exact a
    · rw [a] at h; cases h
  refine ⟨l, hl, by omega, ha, ?_, ?_⟩
  · unfold spl at h ⊢
    rw [if_neg hne] at h ⊢
    by_cases h1 : tx = ByteArray.mk #[47]
    · rw [if_pos h1, h1]
      decide +kernel
    · rw [if_neg h1] at h ⊢
      rw [hl] at h ⊢
      rw [List.drop_succ_cons, List.drop_zero] at h ⊢
      rcases fin_out (go [] l) [] with ⟨_, b⟩ | ⟨_, b⟩
      · rw [b]
        simp only [List.nil_append]
        cases hg : go [] l with
        | nil => exact absurd hg (go_ne l [])
        | cons x r =>
          rw [List.map_cons, ← bs_data (pjS (bs x :: r.map bs)), pjS_data, List.map_cons, List.map_map, data_bs]
          have e : r.map ((fun s : ByteArray => s.data.toList) ∘ bs) = r := by
            have : ((fun s : ByteArray => s.data.toList) ∘ bs) = id := funext fun z => data_bs z
            rw [this, List.map_id]
          rw [e, ← hg, go_join l [], List.nil_append, ← hl, bs_data]
      · rw [b] at h; cases h
  · unfold spl at h
    rw [if_neg hne] at h
    cases l with
    | nil => exact .inl rfl
    | cons b t =>
      refine .inr ⟨b, t, rfl, fun e => ?_⟩
      subst e
      have h1 : tx ≠ ByteArray.mk #[47] := fun e => by rw [e] at hl; cases hl
      rw [if_neg h1, hl, List.drop_succ_cons, List.drop_zero] at h
      have hgo : go [] (47 :: t) = [] :: go [] t := rfl
      rw [hgo] at h
      unfold fin at h
      rw [mayB_no, if_neg (by decide)] at h
      cases h
end Go.Proofs.YtmmclabkkigiaaaGreat

namespace Go.Proofs.YtmmclabkkigiaaaGreat
open Go Go.RowKit
section
variable {q : List Int} {P : Int}
def fd (q : List Int) (n : Int) (x : ByteArray) : ByteArray × Int × Int × Int := (eFind_M q [] 1 21 61 n x).getD (ByteArray.empty, 0, 0, 0)
theorem fd_eq (h : TI q P) (n : Int) (x : ByteArray) : eFind_M q [] 1 21 61 n x = some (fd q n x) ∧
    (((igetM q [] 1 21 61 n).2 ≠ 0 ∧ (fd q n x).2.2.2 = (igetM q [] 1 21 61 n).2) ∨ ((igetM q [] 1 21 61 n).2 = 0 ∧ (igetM q [] 1 21 61 n).1.k ≠ 2 ∧ (fd q n x).2.2.2 = 10) ∨ ((igetM q [] 1 21 61 n).2 = 0 ∧ (igetM q [] 1 21 61 n).1.k = 2)) := by
  obtain ⟨y, e1, _, e3, _⟩ := find_eq (gw := 1) (gi := 21) (gb := 61) (n := n) (VI.nil h.u (by have := h.len; omega)) (by have := h.len; omega) x
  unfold fd
  rw [e1]
  refine ⟨rfl, ?_⟩
  rcases e3 with a | a | a
  · exact .inl a
  · exact .inr (.inl a)
  · exact .inr (.inr ⟨a.1, a.2.1⟩)
def wk (q : List Int) : Int → List ByteArray → Int × Int
  | n, [] => (n, 0)
  | n, x :: xs => if (fd q n x).2.2.2 = 0 then wk q (fd q n x).2.1 xs else (0, (fd q n x).2.2.2)
theorem wk_go (h : TI q P) (xs : List ByteArray) (hx : xs.length ≤ 1000) : ∀ (t : Nat) (p : Nat) (N : Nat), p + t = xs.length → t < N → ∀ n : Int, iter (fun k_ s_ => pwalk_B0 q [] 1 21 61 xs k_ s_.1 s_.2) N (n, (p : Int)) = some (wk q n (xs.drop p)) := by
  intro t
  induction t with
  | zero =>
    intro p N hp hN n
    obtain ⟨a, rfl⟩ : ∃ a, N = a + 1 := ⟨N - 1, by omega⟩
    show pwalk_B0 q [] 1 21 61 xs (iter _ a) n (p : Int) = _
    unfold pwalk_B0
    rw [if_neg (by omega), List.drop_eq_nil_of_le (by omega)]
    rfl
  | succ t ih =>
    intro p N hp hN n
    obtain ⟨a, rfl⟩ : ∃ a, N = a + 1 := ⟨N - 1, by omega⟩
    show pwalk_B0 q [] 1 21 61 xs (iter _ a) n (p : Int) = _
    have hpl : p < xs.length := by omega
    have hg : xs.getD (p : Int).toNat ByteArray.empty = xs[p] := by simp [List.getD, hpl]
    have es : pstep_M q [] 1 21 61 n xs[p] = some ((fd q n xs[p]).2.1, (fd q n xs[p]).2.2.2) := by
      unfold pstep_M
      exact bind_of (fd_eq h n _).1 rfl
    unfold pwalk_B0
    rw [if_pos (by omega), List.drop_eq_getElem_cons hpl]
    refine need_of (by omega) ?_
    rw [hg]
    refine bind_of es ?_
    show (if (fd q n xs[p]).2.2.2 = 0 then _ else _) = some (if (fd q n xs[p]).2.2.2 = 0 then _ else _)
    by_cases h0 : (fd q n xs[p]).2.2.2 = 0
    · rw [if_pos h0, if_pos h0]
      exact need_of (by omega) (ih (p + 1) a (by omega) (by omega) _)
    · rw [if_neg h0, if_neg h0]
theorem wk_eq (h : TI q P) {xs : List ByteArray} (hx : xs.length ≤ 1000) : pwalk_M q [] 1 21 61 xs = some (wk q 1 xs) :=
  wk_go h xs hx xs.length 0 FUEL (by omega) (fuel_lt (by omega)) 1
theorem wk_snoc (q : List Int) (x : ByteArray) : ∀ (xs : List ByteArray) (n : Int), wk q n (xs ++ [x]) = if (wk q n xs).2 = 0 then wk q (wk q n xs).1 [x] else wk q n xs
  | [], n => by
    show _ = if (0 : Int) = 0 then _ else _
    rw [if_pos rfl]
    rfl
  | y :: xs, n => by
    show (if (fd q n y).2.2.2 = 0 then wk q (fd q n y).2.1 (xs ++ [x]) else _) = _
    have e : wk q n (y :: xs) = if (fd q n y).2.2.2 = 0 then wk q (fd q n y).2.1 xs else (0, (fd q n y).2.2.2) := rfl
    rw [e]
    by_cases h0 : (fd q n y).2.2.2 = 0
    · simp only [if_pos h0]
      exact wk_snoc q x xs _
    · simp only [if_neg h0]
theorem fits (h : TI q P) : May 1 21 61 ∧ wordsOf 1 21 61 ≤ (q.length : Int) := ⟨may_tree, by rw [words_may may_tree, h.len]; omega⟩
theorem tWalk (h : TI q P) (tx : ByteArray) : pWalk_M q [] 1 21 61 tx = some (if (spl tx).2 = 0 then wk q 1 (spl tx).1 else (0, (spl tx).2)) := by
  have hs := spl_len tx
  unfold pWalk_M
  rw [if_pos (fits h)]
  refine bind_of (psplit_eq tx) ?_
  by_cases h0 : (spl tx).2 = 0
  · rw [if_pos h0, if_pos h0]
    exact bind_of (wk_eq h (by omega)) rfl
  · rw [if_neg h0, if_neg h0]
def par (q : List Int) (xs : List ByteArray) (x : ByteArray) : Int × ByteArray × Int :=
  if (wk q 1 xs).2 = 0 then if (igetM q [] 1 21 61 (wk q 1 xs).1).2 = 0 then if (igetM q [] 1 21 61 (wk q 1 xs).1).1.k = 2 then ((wk q 1 xs).1, x, 0) else (0, ByteArray.empty, 10) else (0, ByteArray.empty, (igetM q [] 1 21 61 (wk q 1 xs).1).2) else (0, ByteArray.empty, (wk q 1 xs).2)
theorem tParent (h : TI q P) (tx : ByteArray) : pParent_M q [] 1 21 61 tx = some (if (spl tx).2 = 0 then if ((spl tx).1.length : Int) = 0 then (0, ByteArray.empty, 13) else par q ((spl tx).1.take ((spl tx).1.length - 1)) ((spl tx).1.getD ((spl tx).1.length - 1) ByteArray.empty) else (0, ByteArray.empty, (spl tx).2)) := by
  have hs := spl_len tx
  unfold pParent_M
  rw [if_pos (fits h)]
  refine bind_of (psplit_eq tx) ?_
  by_cases h0 : (spl tx).2 = 0
  · rw [if_pos h0, if_pos h0]
    by_cases h1 : ((spl tx).1.length : Int) = 0
    · rw [if_pos h1, if_pos h1]
      rfl
    · rw [if_neg h1, if_neg h1]
      unfold pParent_J1
      rw [if_pos h0]
      refine need_of (by omega) (bind_of rfl (need_of (by omega) ?_))
      rw [show (((spl tx).1.length : Int) - 1).toNat = (spl tx).1.length - 1 by omega]
      refine bind_of (wk_eq h (by rw [List.length_take]; omega)) ?_
      unfold par pParent_J2
      have q3 : 0 ≤ ((spl tx).1.length : Int) - 1 ∧ ((spl tx).1.length : Int) - 1 < ((spl tx).1.length : Int) := by omega
      by_cases h2 : (wk q 1 ((spl tx).1.take ((spl tx).1.length - 1))).2 = 0
      · simp only [if_pos h2, Option.bind]
        by_cases h3 : (igetM q [] 1 21 61 (wk q 1 ((spl tx).1.take ((spl tx).1.length - 1))).1).2 = 0
        · simp only [if_pos h3]
          by_cases h4 : (igetM q [] 1 21 61 (wk q 1 ((spl tx).1.take ((spl tx).1.length - 1))).1).1.k = 2
          · simp only [if_pos h4, need, if_pos q3]
            rw [show (((spl tx).1.length : Int) - 1).toNat = (spl tx).1.length - 1 by omega]
          · simp only [if_neg h4]
            rfl
        · simp only [if_neg h3]
      · simp only [if_neg h2]
  · rw [if_neg h0, if_neg h0]
    unfold pParent_J1
    rw [if_neg h0]
theorem win (h : TI q P) (a : Int) : ∀ (n : Nat) (b : Int), (igetM q [] 1 21 61 b).2 = 0 → b ≤ (n : Int) → ∃ B : Bool, (∀ (p : Int) (N : Nat), 0 ≤ p → p + b ≤ 21 → b.toNat < N → iter (fun k_ s_ => pWithin_B0 q [] 1 21 61 a k_ s_.1 s_.2) N (b, p) = some (B, 0)) ∧
    (a = b → B = true) ∧ (a ≠ b → (igetM q [] 1 21 61 b).1.m = 0 → B = false) ∧
    (a ≠ b → (igetM q [] 1 21 61 b).1.m ≠ 0 → ∀ (p : Int) (N : Nat), 0 ≤ p → p + (igetM q [] 1 21 61 b).1.m ≤ 21 → ((igetM q [] 1 21 61 b).1.m).toNat < N → iter (fun k_ s_ => pWithin_B0 q [] 1 21 61 a k_ s_.1 s_.2) N ((igetM q [] 1 21 61 b).1.m, p) = some (B, 0)) ∧
    (B = true → a = b ∨ (igetM q [] 1 21 61 a).1.k = 2) ∧ (a = 1 → (igetM q [] 1 21 61 b).1.k = 2 → B = true) := by
  intro n
  induction n with
  | zero => intro b h0 hb; have := iget_in h0; omega
  | succ n ih =>
    intro b h0 hb
    have hbi := iget_in h0
    have step : ∀ (p : Int) (N : Nat), b.toNat < N → iter (fun k_ s_ => pWithin_B0 q [] 1 21 61 a k_ s_.1 s_.2) N (b, p) = pWithin_B0 q [] 1 21 61 a (iter (fun k_ s_ => pWithin_B0 q [] 1 21 61 a k_ s_.1 s_.2) (N - 1)) b p := fun p N hN => by
      obtain ⟨m, rfl⟩ : ∃ m, N = m + 1 := ⟨N - 1, by omega⟩
      rfl
    by_cases hab : a = b
    · refine ⟨true, fun p N hp hp2 hN => ?_, fun _ => rfl, fun x => absurd hab x, fun x => absurd hab x, fun _ => .inl hab, fun _ _ => rfl⟩
      rw [step p N hN]
      unfold pWithin_B0
      rw [if_pos (by omega)]
      refine bind_of rfl ?_
      rw [if_pos h0, if_pos hab]
      unfold pWithin_J2
      rw [if_pos rfl, if_pos h0, decide_eq_true hab, h0]
    · by_cases hm : (igetM q [] 1 21 61 b).1.m = 0
      · refine ⟨false, fun p N hp hp2 hN => ?_, fun x => absurd x hab, fun _ _ => rfl, fun _ x => absurd hm x, fun x => absurd x (by decide), fun x hk => ?_⟩
        · rw [step p N hN]
          unfold pWithin_B0
          rw [if_pos (by omega)]
          refine bind_of rfl ?_
          rw [if_pos h0, if_neg hab]
          unfold pWithin_J2
          rw [if_pos (decide_eq_true hm), if_pos h0, decide_eq_false hab, h0]
        · exfalso
          have := h.rest b (by omega) (by omega) h0
          omega
      · have hb2 : 2 ≤ b := by
          by_cases e : b = 1
          · rw [e] at hm; exact absurd h.root.2.2 hm
          · omega
        obtain ⟨_, hr⟩ := h.rest b hb2 (by omega) h0
        obtain ⟨k2, m1, m2, m3⟩ : (igetM q [] 1 21 61 b).1.k = 2 ∧ (1 ≤ (igetM q [] 1 21 61 b).1.m ∧ (igetM q [] 1 21 61 b).1.m < b) ∧ (igetM q [] 1 21 61 (igetM q [] 1 21 61 b).1.m).2 = 0 ∧ (igetM q [] 1 21 61 (igetM q [] 1 21 61 b).1.m).1.k = 2 := by
          rcases hr with ⟨_, e⟩ | e
          · exact absurd e hm
          · exact e
        obtain ⟨B, i1, i2, i3, i4, i5, i6⟩ := ih _ m2 (by omega)
        refine ⟨B, fun p N hp hp2 hN => ?_, fun x => absurd x hab, fun _ x => absurd x hm, fun _ _ => i1, fun x => ?_, fun x _ => i6 x m3⟩
        · rw [step p N hN]
          unfold pWithin_B0
          rw [if_pos (by omega)]
          refine bind_of rfl ?_
          rw [if_pos h0, if_neg hab]
          unfold pWithin_J2
          rw [if_neg (by rw [decide_eq_false hm]; decide)]
          exact need_of (by omega) (need_of (by omega) (i1 (p + 1) (N - 1) (by omega) (by omega) (by omega)))
        · rcases i5 x with e | e
          · right; rw [e]; exact m3
          · exact .inr e
theorem within_of {a b : Int} {B : Bool} (h0 : (igetM q [] 1 21 61 a).2 = 0) (h1 : ∀ (p : Int) (N : Nat), 0 ≤ p → p + b ≤ 21 → b.toNat < N → iter (fun k_ s_ => pWithin_B0 q [] 1 21 61 a k_ s_.1 s_.2) N (b, p) = some (B, 0)) (hb : b < 21) : pWithin_M q [] 1 21 61 a b = some (B, 0) := by
  unfold pWithin_M
  refine bind_of rfl ?_
  rw [if_pos h0]
  exact need_of (by omega) (h1 0 FUEL (by omega) (by omega) (fuel_lt (by omega)))
theorem within_bad {a b : Int} (h : TI q P) (ha : 1 ≤ a ∧ a < 21) (hb : 1 ≤ b ∧ b < 21) (hx : (igetM q [] 1 21 61 a).2 ≠ 0 ∨ (igetM q [] 1 21 61 b).2 ≠ 0) : pWithin_M q [] 1 21 61 a b = some (false, 4) := by
  unfold pWithin_M
  refine bind_of rfl ?_
  by_cases h0 : (igetM q [] 1 21 61 a).2 = 0
  · rw [if_pos h0]
    have h1 : (igetM q [] 1 21 61 b).2 ≠ 0 := hx.elim (fun e => absurd h0 e) id
    refine need_of (by omega) ?_
    obtain ⟨m, hm⟩ : ∃ m, FUEL = m + 1 := ⟨FUEL - 1, by have := fuel_lt (show 0 < 18446744073709551616 by omega); omega⟩
    rw [hm]
    show pWithin_B0 q [] 1 21 61 a (iter _ m) b 0 = _
    unfold pWithin_B0
    rw [if_pos (by omega)]
    refine bind_of rfl ?_
    rw [if_neg h1]
    unfold pWithin_J2
    rw [if_pos rfl, if_neg h1, iget_bad h.len hb h1]
  · rw [if_neg h0, iget_bad h.len ha h0]
end
end Go.Proofs.YtmmclabkkigiaaaGreat
