/- Texts, one behind the other: A8o, ALpNi, PLpNi. -/
import Derived.Test.YtmmclabkkigiaaaQPN4
set_option linter.unusedVariables false
set_option linter.unusedSimpArgs false
set_option maxRecDepth 20000
namespace Go.Proofs.Ytmmclabkkigiaaa
open Go Go.RowKit
theorem pWalk_nil {gw gi gb : Int} {tx_ : ByteArray} (B : Nat) (w : World) : Spec Try.prog 13 #[(.pointer none), (.agg #[(zi gw), (zi gi), (zi gb)]), (.string tx_)] B w [] (fun v H' => v = (.tuple #[(zi 0), (zi 2)]) ∧ H' = []) := by
 refine spec_Q Try.func13 rfl fun hs => ?_
 refine W.sr fun K1 hK1 => ?_
 refine zN [(zi gw), (zi gi), (zi gb)] 33 hs fun b4 w2 hs3 => ?_
 refine zE 2 (hK1 _ _ ?_)
 refine W.sr fun K5 hK5 => ?_
 refine zR 1 ?_
 refine zG ⟨b4, 0, none⟩ [(zi gw), (zi gi), (zi gb)] (cells_sub (hs3.heapAt 0 rfl) rfl) ?_
 refine zC00 hs3 (popen_nil (gw := gw) (gi := gi) (gb := gb) B _) fun w6 hs8 => ?_
 refine zR 3 ?_
 refine zN [(.pointer none), (zi 0), (zi 0), (zi 0)] 53 hs8 fun b11 w9 hs10 => ?_
 refine zT 0 [(.pointer none), (zi 0), (zi 0), (zi 0)] [(.pointer none), (zi 0), (zi 0), (zi 0)] hs10 fun w12 hs14 => ?_
 refine zE 1 (hK5 _ _ ?_)
 refine W.seq fun K15 hK15 => ?_
 refine W.sr fun K16 hK16 => ?_
 refine zE 2 (hK16 _ _ ?_)
 refine W.cond_true true (by kernel_rfl) rfl ?_
 refine W.sr fun K17 hK17 => ?_
 refine zE 3 (hK17 _ _ ?_)
 refine W.ret (ret_seq ?_)
 have hs18 := St.tk0 hs14
 refine ret_of (.tuple #[(zi 0), (zi 2)]) (by kernel_rfl) ⟨_, ⟨rfl, rfl⟩, hs18⟩
theorem pParent_nil {gw gi gb : Int} {tx_ : ByteArray} (B : Nat) (w : World) : Spec Try.prog 14 #[(.pointer none), (.agg #[(zi gw), (zi gi), (zi gb)]), (.string tx_)] B w [] (fun v H' => v = (.tuple #[(zi 0), (.string ByteArray.empty), (zi 2)]) ∧ H' = []) := by
 refine spec_Q Try.func14 rfl fun hs => ?_
 refine W.sr fun K1 hK1 => ?_
 refine zN [(zi gw), (zi gi), (zi gb)] 33 hs fun b4 w2 hs3 => ?_
 refine zE 3 (hK1 _ _ ?_)
 refine W.sr fun K5 hK5 => ?_
 refine zR 1 ?_
 refine zG ⟨b4, 0, none⟩ [(zi gw), (zi gi), (zi gb)] (cells_sub (hs3.heapAt 0 rfl) rfl) ?_
 refine zC00 hs3 (popen_nil (gw := gw) (gi := gi) (gb := gb) B _) fun w6 hs8 => ?_
 refine zR 3 ?_
 refine zN [(.pointer none), (zi 0), (zi 0), (zi 0)] 53 hs8 fun b11 w9 hs10 => ?_
 refine zT 0 [(.pointer none), (zi 0), (zi 0), (zi 0)] [(.pointer none), (zi 0), (zi 0), (zi 0)] hs10 fun w12 hs14 => ?_
 refine zE 1 (hK5 _ _ ?_)
 refine W.seq fun K15 hK15 => ?_
 refine W.sr fun K16 hK16 => ?_
 refine zE 2 (hK16 _ _ ?_)
 refine W.cond_true true (by kernel_rfl) rfl ?_
 refine W.sr fun K17 hK17 => ?_
 refine zE 4 (hK17 _ _ ?_)
 refine W.ret (ret_seq ?_)
 have hs18 := St.tk0 hs14
 refine ret_of (.tuple #[(zi 0), (.string ByteArray.empty), (zi 2)]) (by kernel_rfl) ⟨_, ⟨rfl, rfl⟩, hs18⟩
theorem pWithin_nil {gw gi gb a_ b_ : Int} (B : Nat) (w : World) : Spec Try.prog 15 #[(.pointer none), (.agg #[(zi gw), (zi gi), (zi gb)]), (zi a_), (zi b_)] B w [] (fun v H' => v = (.tuple #[(.bool false), (zi 2)]) ∧ H' = []) := by
 refine spec_Q Try.func15 rfl fun hs => ?_
 refine W.sr fun K1 hK1 => ?_
 refine zN [(zi gw), (zi gi), (zi gb)] 33 hs fun b4 w2 hs3 => ?_
 refine zE 2 (hK1 _ _ ?_)
 refine W.seq fun K5 hK5 => ?_
 refine W.sr fun K6 hK6 => ?_
 refine zR 1 ?_
 refine zG ⟨b4, 0, none⟩ [(zi gw), (zi gi), (zi gb)] (cells_sub (hs3.heapAt 0 rfl) rfl) ?_
 refine zR 1 ?_
 refine zC00 hs3 (ig_nil (gw := gw) (gi := gi) (gb := gb) (n_ := a_) B _) fun w7 hs9 => ?_
 refine zR 3 ?_
 refine zN [(zu 0), (zu 0), (zu 0), (zu 0), (zu 0), (zu 0), (zu 0), (zu 0), (zu 0), (zu 0)] 61 hs9 fun b12 w10 hs11 => ?_
 refine zT 0 [(zu 0), (zu 0), (zu 0), (zu 0), (zu 0), (zu 0), (zu 0), (zu 0), (zu 0), (zu 0)] [(zu 0), (zu 0), (zu 0), (zu 0), (zu 0), (zu 0), (zu 0), (zu 0), (zu 0), (zu 0)] hs11 fun w13 hs15 => ?_
 refine zE 1 (hK6 _ _ ?_)
 refine W.sr fun K16 hK16 => ?_
 refine zE 2 (hK16 _ _ ?_)
 refine W.cond_true true (by kernel_rfl) rfl ?_
 refine W.sr fun K17 hK17 => ?_
 refine zE 3 (hK17 _ _ ?_)
 refine W.ret (ret_seq ?_)
 have hs18 := St.tk0 hs15
 refine ret_of (.tuple #[(.bool false), (zi 2)]) (by kernel_rfl) ⟨_, ⟨rfl, rfl⟩, hs18⟩
end Go.Proofs.Ytmmclabkkigiaaa

set_option maxRecDepth 20000
set_option maxHeartbeats 4000000
namespace Go.Proofs.Ytmmclabkkigiaaa
open Go Go.RowKit
def pathnil_M  : Option (Bool) :=
 if (ByteArray.empty.toList == ByteArray.empty.toList) = true then ((pjoin_M ([(ByteArray.mk #[97]), ByteArray.empty])).bind fun r23 =>
if (r23.toList == ByteArray.empty.toList) = true then ((pjoin_M ([])).bind fun r29 =>
if (r29.toList == (ByteArray.mk #[47]).toList) = true then ((works16_M).bind fun r35 =>
some r35) else (some false)) else (some false)) else (some false)
theorem pathnil_walk {gw : Int} {gi : Int} {gb : Int} {tx_ : ByteArray} {a_ : Int} {b_ : Int}   (B : Nat) (w : World) (hB : w.heap.size = B) (hm : pathnil_M = some true) : Spec Try.prog 5 #[(.agg #[(zi gw), (zi gi), (zi gb)]), (.string tx_), (zi a_), (zi b_)] B w [] (fun v H' => v = .bool true ∧ H' = []) := by
 refine spec_Q Try.func5 rfl fun hs => ?_
 unfold pathnil_M at hm
 refine W.sr fun K1 hK1 => ?_
 refine zN [(zi gw), (zi gi), (zi gb)] 33 hs fun b4 w2 hs3 => ?_
 refine zE 1 (hK1 _ _ ?_)
 refine W.sr fun K5 hK5 => ?_
 refine zG ⟨b4, 0, none⟩ [(zi gw), (zi gi), (zi gb)] (cells_sub (hs3.heapAt 0 rfl) rfl) ?_
 refine zR 1 ?_
 refine zC00 hs3 (pWalk_nil (gw := gw) (gi := gi) (gb := gb) (tx_ := tx_) B _) fun w6 hs8 => ?_
 refine zE 5 (hK5 _ _ ?_)
 refine W.sr fun K9 hK9 => ?_
 refine zG ⟨b4, 0, none⟩ [(zi gw), (zi gi), (zi gb)] (cells_sub (hs8.heapAt 0 rfl) rfl) ?_
 refine zR 1 ?_
 refine zC00 hs8 (pParent_nil (gw := gw) (gi := gi) (gb := gb) (tx_ := tx_) B _) fun w10 hs12 => ?_
 refine zE 7 (hK9 _ _ ?_)
 refine W.sr fun K13 hK13 => ?_
 refine zG ⟨b4, 0, none⟩ [(zi gw), (zi gi), (zi gb)] (cells_sub (hs12.heapAt 0 rfl) rfl) ?_
 refine zR 2 ?_
 refine zC00 hs12 (pWithin_nil (gw := gw) (gi := gi) (gb := gb) (a_ := a_) (b_ := b_) B _) fun w14 hs16 => ?_
 refine zE 5 (hK13 _ _ ?_)
 refine W.sr fun K17 hK17 => ?_
 refine zR 19 ?_
 rcases Bool.eq_false_or_eq_true (ByteArray.empty.toList == ByteArray.empty.toList) with h18 | h18
 ·
  have h18p : (ByteArray.empty.toList == ByteArray.empty.toList) = true := h18
  replace hm := ite_yes hm h18p
  refine zS 54 h18 ?_
  refine zS 52 h18 ?_
  refine zS 53 h18 ?_
  refine zR 8 ?_
  refine ops_new (fun b => .slice (some ⟨b, 0, none⟩) 2 2) (.cells [(.string (ByteArray.mk #[97])), (.string ByteArray.empty)].toArray 9 (0, 0)) hs16 (by kernel_rfl) (fun b21 w19 hs20 => ?_)
  have hs22 : St B w [] w19 [kStr.row (some ⟨b21, 0, none⟩) 2 ([(ByteArray.mk #[97]), ByteArray.empty]), zb b4 33 [(zi gw), (zi gi), (zi gb)]] := St.kblk kStr [(ByteArray.mk #[97]), ByteArray.empty] hs20 rfl rfl (by simp only [List.length_cons, List.length_nil]; decide)
  obtain ⟨r23, h24, hm⟩ := bind_some hm
  refine zC00 hs22 (pjoin_walk (xs := [(ByteArray.mk #[97]), ByteArray.empty]) (xc := 2) (hx := (St.kcells kStr hs22 0 rfl)) (hcap := (St.kcap kStr hs22 0 rfl)) (hm := h24) B _) fun w25 hs27 => ?_
  refine zR 3 ?_
  rcases Bool.eq_false_or_eq_true (r23.toList == ByteArray.empty.toList) with h28 | h28
  ·
   have h28p : (r23.toList == ByteArray.empty.toList) = true := h28
   replace hm := ite_yes hm h28p
   refine zS 67 h28 ?_
   refine zS 65 h28 ?_
   refine zS 66 h28 ?_
   obtain ⟨r29, h30, hm⟩ := bind_some hm
   refine zC00 hs27 (pjoin_walk (xs := []) (xc := 0) (hx := (cells_nil_none kStr _)) (hcap := (Nat.zero_le _)) (hm := h30) B _) fun w31 hs33 => ?_
   refine zR 3 ?_
   rcases Bool.eq_false_or_eq_true (r29.toList == (ByteArray.mk #[47]).toList) with h34 | h34
   ·
    have h34p : (r29.toList == (ByteArray.mk #[47]).toList) = true := h34
    replace hm := ite_yes hm h34p
    refine zS 71 h34 ?_
    refine zS 69 h34 ?_
    refine zS 70 h34 ?_
    obtain ⟨r35, h36, hm⟩ := bind_some hm
    refine zC00 hs33 (works16_walk (hm := h36) B _) fun w37 hs39 => ?_
    refine zE 2 (hK17 _ _ ?_)
    refine W.ret ?_
    have hs40 := St.tk0 hs39
    refine ret_of (.bool r35) (by kernel_rfl) ⟨_, ⟨congrArg Value.bool (some_inj hm), rfl⟩, hs40⟩
   have h34p : ¬ ((r29.toList == (ByteArray.mk #[47]).toList) = true) := ne_true_of_eq_false h34
   replace hm := ite_no hm h34p
   refine zS 71 h34 ?_
   refine zS 69 h34 ?_
   refine zS 70 h34 ?_
   refine zE 3 (hK17 _ _ ?_)
   refine W.ret ?_
   have hs41 := St.tk0 hs33
   refine ret_of (.bool false) (by kernel_rfl) ⟨_, ⟨congrArg Value.bool (some_inj hm), rfl⟩, hs41⟩
  have h28p : ¬ ((r23.toList == ByteArray.empty.toList) = true) := ne_true_of_eq_false h28
  replace hm := ite_no hm h28p
  refine zS 67 h28 ?_
  refine zS 65 h28 ?_
  refine zS 66 h28 ?_
  refine zE 7 (hK17 _ _ ?_)
  refine W.ret ?_
  have hs42 := St.tk0 hs27
  refine ret_of (.bool false) (by kernel_rfl) ⟨_, ⟨congrArg Value.bool (some_inj hm), rfl⟩, hs42⟩
 have h18p : ¬ ((ByteArray.empty.toList == ByteArray.empty.toList) = true) := ne_true_of_eq_false h18
 replace hm := ite_no hm h18p
 refine zS 54 h18 ?_
 refine zS 52 h18 ?_
 refine zS 53 h18 ?_
 refine zE 20 (hK17 _ _ ?_)
 refine W.ret ?_
 have hs43 := St.tk0 hs16
 refine ret_of (.bool false) (by kernel_rfl) ⟨_, ⟨congrArg Value.bool (some_inj hm), rfl⟩, hs43⟩
end Go.Proofs.Ytmmclabkkigiaaa

namespace Go.Proofs.Ytmmclabkkigiaaa
open Go Go.RowKit
theorem pj_two : pj [ByteArray.mk #[97], ByteArray.empty] = ByteArray.empty := by decide +kernel
theorem pj_none : pj [] = ByteArray.mk #[47] := by decide +kernel
theorem pathnil_law : pathnil_M = some true := by
  refine Ok.true ?_
  unfold pathnil_M
  refine Ok.yes (beq_toList.2 rfl) (Ok.got15 (pjoin_eq (by decide) (fun x hx => ?_)) (Ok.yes (beq_toList.2 pj_two) (Ok.got15 (pjoin_eq (by decide) (fun x hx => by simp at hx)) (Ok.yes (beq_toList.2 pj_none) works16_stop))))
  rcases List.mem_cons.1 hx with rfl | hx
  · decide
  · rcases List.mem_cons.1 hx with rfl | hx
    · decide
    · simp at hx
end Go.Proofs.Ytmmclabkkigiaaa
