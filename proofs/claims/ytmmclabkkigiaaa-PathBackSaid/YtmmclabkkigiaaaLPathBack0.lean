/- Texts, one behind the other: ALpBa, PLpBa. -/
import Derived.Test.YtmmclabkkigiaaaQPN4
set_option linter.unusedVariables false
set_option linter.unusedSimpArgs false
set_option maxRecDepth 20000
set_option maxHeartbeats 4000000
namespace Go.Proofs.Ytmmclabkkigiaaa
open Go Go.RowKit
def pathback_J3 (tx_ : ByteArray) : Option (Bool) :=
 need (tx_.size + (ByteArray.mk #[47]).size ≤ 9223372036854775807) <|
(psplit_M (tx_ ++ (ByteArray.mk #[47]))).bind fun r56 =>
need ((ByteArray.mk #[47]).size + tx_.size ≤ 9223372036854775807) <|
(psplit_M ((ByteArray.mk #[47]) ++ tx_)).bind fun r65 =>
need ((0 : Int) ≤ 1 ∧ (1 : Int) ≤ (tx_.size : Int) ∧ (tx_.size : Int) ≤ (tx_.size : Int)) <|
(psplit_M (tx_.extract 1 tx_.size)).bind fun r74 =>
if r56.2 = 13 then (if r65.2 = 13 then (if r74.2 = 13 then ((works16_M).bind fun r83 =>
some r83) else (some false)) else (some false)) else (some false)
def pathback_B1 (tx_ : ByteArray) (r31 : List ByteArray × Int) (k94 : Int → Option (Bool)) (p93 : Int) : Option (Bool) :=
 if p93 < (r31.1.length : Int) then (need (0 ≤ p93 ∧ p93 < (r31.1.length : Int)) <|
(emay_M (r31.1.getD p93.toNat ByteArray.empty)).bind fun r105 =>
if r105 = true then (need (-9223372036854775808 ≤ (p93 + 1) ∧ (p93 + 1) ≤ 9223372036854775807) <|
k94 (p93 + 1)) else (some false)) else (pathback_J3 tx_)
def pathback_J2 (tx_ : ByteArray) : Option (Bool) :=
 (psplit_M tx_).bind fun r31 =>
if r31.2 = 0 then ((pjoin_M r31.1).bind fun r41 =>
if (r41.toList == tx_.toList) = true then (if (tx_.size : Int) < 1 then (some false) else (iter (fun k_ s_ => pathback_B1 tx_ r31 k_ s_) FUEL 0)) else (some false)) else (if r31.2 = 13 then (if (r31.1.length : Int) = 0 then ((works16_M).bind fun r119 =>
some r119) else (some false)) else (some false))
def pathback_J1 (tx_ : ByteArray) (xs : List ByteArray) : Option (Bool) :=
 (pjoin_M xs).bind fun r21 =>
if (r21.toList == ByteArray.empty.toList) = true then (pathback_J2 tx_) else ((psplit_M r21).bind fun r132 =>
if r132.2 = 0 then ((rsame16_M r132.1 xs).bind fun r139 =>
if r139 = true then (if (r21.size : Int) > 200 then (some false) else (pathback_J2 tx_)) else (some false)) else (some false))
def pathback_B0 (tx_ : ByteArray) (xs : List ByteArray) (k155 : Int → Option (Bool)) (p154 : Int) : Option (Bool) :=
 if p154 < (xs.length : Int) then (need (0 ≤ p154 ∧ p154 < (xs.length : Int)) <|
if ((xs.getD p154.toNat ByteArray.empty).size : Int) > 300 then ((works16_M).bind fun r168 =>
some r168) else (need (-9223372036854775808 ≤ (p154 + 1) ∧ (p154 + 1) ≤ 9223372036854775807) <|
k155 (p154 + 1))) else (pathback_J1 tx_ xs)
def pathback_M (tx_ : ByteArray) (xs : List ByteArray) : Option (Bool) :=
 if (tx_.size : Int) > 1000 then ((works16_M).bind fun r6 =>
some r6) else (if (xs.length : Int) > 300 then ((works16_M).bind fun r13 =>
some r13) else (iter (fun k_ s_ => pathback_B0 tx_ xs k_ s_) FUEL 0))
theorem pathback_walk {tx_ : ByteArray} {xs : List ByteArray} {at_ : Int} {xa : Option Addr} {xc : Nat}  (B : Nat) (w : World) (hB : w.heap.size = B) (hx : CellsAt xa (kStr.cells xs) w) (hcap : xs.length ≤ xc) (hm : pathback_M tx_ xs = some true) : Spec Try.prog 4 #[(.string tx_), (.slice xa xs.length xc), (.int .u8 at_)] B w [] (fun v H' => v = .bool true ∧ H' = []) := by
 refine spec_Q Try.func4 rfl fun hs => ?_
 unfold pathback_M at hm
 refine W.sr fun K1 hK1 => ?_
 refine zE 1 (hK1 _ _ ?_)
 refine W.seq fun K2 hK2 => ?_
 refine W.sr fun K3 hK3 => ?_
 refine zR 4 ?_
 rcases Bool.eq_false_or_eq_true (decide ((tx_.size : Int) > 1000)) with h4 | h4
 ·
  obtain ⟨h4p, hm⟩ := iY hm h4
  refine zS 23 h4 ?_
  refine zS 22 h4 ?_
  refine zE 4 (hK3 _ _ ?_)
  refine W.cond_true true (by kernel_rfl) rfl ?_
  refine W.sr fun K5 hK5 => ?_
  obtain ⟨r6, h7, hm⟩ := bind_some hm
  refine zC00 hs (works16_walk (hm := h7) B _) fun w8 hs10 => ?_
  refine zE 1 (hK5 _ _ ?_)
  refine W.ret (ret_seq ?_)
  refine ret_of (.bool r6) (by kernel_rfl) ⟨_, ⟨congrArg Value.bool (some_inj hm), rfl⟩, hs10⟩
 obtain ⟨h4p, hm⟩ := iN hm h4
 refine zS 23 h4 ?_
 refine zS 22 h4 ?_
 refine zE 4 (hK3 _ _ ?_)
 refine W.cond (decide ((xs.length : Int) > 300)) (by kernel_rfl) (fun h11 => ?_) (fun h11 => ?_)
 ·
  obtain ⟨h11p, hm⟩ := iY hm h11
  refine W.sr fun K12 hK12 => ?_
  obtain ⟨r13, h14, hm⟩ := bind_some hm
  refine zC00 hs (works16_walk (hm := h14) B _) fun w15 hs17 => ?_
  refine zE 1 (hK12 _ _ ?_)
  refine W.ret (ret_seq ?_)
  refine ret_of (.bool r13) (by kernel_rfl) ⟨_, ⟨congrArg Value.bool (some_inj hm), rfl⟩, hs17⟩
 obtain ⟨h11p, hm⟩ := iN hm h11
 refine W.skip ?_
 refine hK2 _ _ ?_
 refine W.seq_join (fun s_ w_ => (∃ us, s_ = slots 133 [(0, (.string tx_)), (1, (.slice xa xs.length xc))] us) ∧ St B w [] w_ [] ∧ pathback_J1 tx_ xs = some true) ?_ ?_
 ·
  rintro _ w18 ⟨⟨us, rfl⟩, hs19, hm⟩
  unfold pathback_J1 at hm
  refine W.sr fun K20 hK20 => ?_
  refine zR 1 ?_
  obtain ⟨r21, h22, hm⟩ := bind_some hm
  refine zC00 hs19 (pjoin_walk (xs := xs) (hx := (hs19.oldCells hx)) (hcap := hcap) (hm := h22) B _) fun w23 hs25 => ?_
  refine zE 1 (hK20 _ _ ?_)
  refine W.seq_join (fun s_ w_ => (∃ us, s_ = slots 133 [(0, (.string tx_))] us) ∧ St B w [] w_ [] ∧ pathback_J2 tx_ = some true) ?_ ?_
  ·
   rintro _ w26 ⟨⟨us, rfl⟩, hs27, hm⟩
   unfold pathback_J2 at hm
   refine W.sr fun K28 hK28 => ?_
   refine zR 1 ?_
   obtain ⟨r31, h32, hm⟩ := bind_some hm
   refine ops_call0 hs27 (by kernel_rfl) (psplit_walk (tx_ := tx_) (hm := h32) B _) ?_
   rintro _ _ w33 ⟨a29, c30, rfl, rfl⟩ hs34
   have hs35 := St.ap1 hs34
   refine zE 5 (hK28 _ _ ?_)
   refine W.seq fun K36 hK36 => ?_
   refine W.sr fun K37 hK37 => ?_
   refine zE 2 (hK37 _ _ ?_)
   refine W.cond (!decide (r31.2 = 0)) (by kernel_rfl) (fun h38 => ?_) (fun h38 => ?_)
   rotate_left
   ·
    have h38p : r31.2 = 0 := of_decide_eq_true (bnot_false h38)
    replace hm := ite_yes hm h38p
    refine W.skip ?_
    refine hK36 _ _ ?_
    refine W.seq fun K39 hK39 => ?_
    refine W.sr fun K40 hK40 => ?_
    refine zR 1 ?_
    obtain ⟨r41, h42, hm⟩ := bind_some hm
    refine zC00 hs35 (pjoin_walk (xs := r31.1) (hx := (St.kcells kStr hs35 0 rfl)) (hcap := (St.kcap kStr hs35 0 rfl)) (hm := h42) B _) fun w43 hs45 => ?_
    refine zR 3 ?_
    rcases Bool.eq_false_or_eq_true (!(r41.toList == tx_.toList)) with h46 | h46
    rotate_left
    ·
     have h46p : (r41.toList == tx_.toList) = true := (bnot_false h46)
     replace hm := ite_yes hm h46p
     refine zS 85 h46 ?_
     refine zS 84 h46 ?_
     refine zE 4 (hK40 _ _ ?_)
     refine W.cond (decide ((tx_.size : Int) < 1)) (by kernel_rfl) (fun h47 => ?_) (fun h47 => ?_)
     ·
      obtain ⟨h47p, hm⟩ := iY hm h47
      refine W.sr fun K48 hK48 => ?_
      refine zE 1 (hK48 _ _ ?_)
      refine W.ret (ret_seq ?_)
      have hs49 := St.tk0 hs45
      refine ret_of (.bool false) (by kernel_rfl) ⟨_, ⟨congrArg Value.bool (some_inj hm), rfl⟩, hs49⟩
     obtain ⟨h47p, hm⟩ := iN hm h47
     refine W.skip ?_
     refine hK39 _ _ ?_
     refine W.seq_join (fun s_ w_ => (∃ us, s_ = slots 133 [(0, (.string tx_))] us) ∧ St B w [] w_ [kStr.row a29 c30 r31.1] ∧ pathback_J3 tx_ = some true) ?_ ?_
     ·
      rintro _ w50 ⟨⟨us, rfl⟩, hs51, hm⟩
      unfold pathback_J3 at hm
      refine W.sr fun K52 hK52 => ?_
      refine zR 1 ?_
      obtain ⟨h53, hm⟩ := need_some hm
      refine ops_R (v := (.string (tx_ ++ (ByteArray.mk #[47])))) (runs_strAdd (a := tx_) (b := (ByteArray.mk #[47])) h53 (by kernel_rfl)) ?_
      obtain ⟨r56, h57, hm⟩ := bind_some hm
      refine ops_call0 hs51 (by kernel_rfl) (psplit_walk (tx_ := (tx_ ++ (ByteArray.mk #[47]))) (hm := h57) B _) ?_
      rintro _ _ w58 ⟨a54, c55, rfl, rfl⟩ hs59
      have hs60 := St.ap1 hs59
      refine zE 5 (hK52 _ _ ?_)
      refine W.sr fun K61 hK61 => ?_
      refine zR 1 ?_
      obtain ⟨h62, hm⟩ := need_some hm
      refine ops_R (v := (.string ((ByteArray.mk #[47]) ++ tx_))) (runs_strAdd (a := (ByteArray.mk #[47])) (b := tx_) h62 (by kernel_rfl)) ?_
      obtain ⟨r65, h66, hm⟩ := bind_some hm
      refine ops_call0 hs60 (by kernel_rfl) (psplit_walk (tx_ := ((ByteArray.mk #[47]) ++ tx_)) (hm := h66) B _) ?_
      rintro _ _ w67 ⟨a63, c64, rfl, rfl⟩ hs68
      have hs69 := St.ap1 hs68
      refine zE 5 (hK61 _ _ ?_)
      refine W.sr fun K70 hK70 => ?_
      refine zR 1 ?_
      obtain ⟨h71, hm⟩ := need_some hm
      refine ops_R (v := (.string (tx_.extract 1 tx_.size))) (runs_strSlice (b := tx_) (lo := (some 1)) (hi := none) 1 tx_.size (.inl (congrArg some rfl)) (.inr ⟨rfl, rfl⟩) (by omega) (by omega) (by kernel_rfl)) ?_
      obtain ⟨r74, h75, hm⟩ := bind_some hm
      refine ops_call0 hs69 (by kernel_rfl) (psplit_walk (tx_ := (tx_.extract 1 tx_.size)) (hm := h75) B _) ?_
      rintro _ _ w76 ⟨a72, c73, rfl, rfl⟩ hs77
      have hs78 := St.ap1 hs77
      refine zE 5 (hK70 _ _ ?_)
      refine W.sr fun K79 hK79 => ?_
      refine zR 3 ?_
      rcases Bool.eq_false_or_eq_true (decide (r56.2 = 13)) with h80 | h80
      ·
       obtain ⟨h80p, hm⟩ := iY hm h80
       refine zS 122 h80 ?_
       refine zS 121 h80 ?_
       refine zR 4 ?_
       rcases Bool.eq_false_or_eq_true (decide (r65.2 = 13)) with h81 | h81
       ·
        obtain ⟨h81p, hm⟩ := iY hm h81
        refine zS 126 h81 ?_
        refine zS 124 h81 ?_
        refine zS 125 h81 ?_
        refine zR 4 ?_
        rcases Bool.eq_false_or_eq_true (decide (r74.2 = 13)) with h82 | h82
        ·
         obtain ⟨h82p, hm⟩ := iY hm h82
         refine zS 130 h82 ?_
         refine zS 128 h82 ?_
         refine zS 129 h82 ?_
         obtain ⟨r83, h84, hm⟩ := bind_some hm
         refine zC00 hs78 (works16_walk (hm := h84) B _) fun w85 hs87 => ?_
         refine zE 2 (hK79 _ _ ?_)
         refine W.ret ?_
         have hs88 := St.tk0 hs87
         refine ret_of (.bool r83) (by kernel_rfl) ⟨_, ⟨congrArg Value.bool (some_inj hm), rfl⟩, hs88⟩
        obtain ⟨h82p, hm⟩ := iN hm h82
        refine zS 130 h82 ?_
        refine zS 128 h82 ?_
        refine zS 129 h82 ?_
        refine zE 3 (hK79 _ _ ?_)
        refine W.ret ?_
        have hs89 := St.tk0 hs78
        refine ret_of (.bool false) (by kernel_rfl) ⟨_, ⟨congrArg Value.bool (some_inj hm), rfl⟩, hs89⟩
       obtain ⟨h81p, hm⟩ := iN hm h81
       refine zS 126 h81 ?_
       refine zS 124 h81 ?_
       refine zS 125 h81 ?_
       refine zE 7 (hK79 _ _ ?_)
       refine W.ret ?_
       have hs90 := St.tk0 hs78
       refine ret_of (.bool false) (by kernel_rfl) ⟨_, ⟨congrArg Value.bool (some_inj hm), rfl⟩, hs90⟩
      obtain ⟨h80p, hm⟩ := iN hm h80
      refine zS 122 h80 ?_
      refine zS 121 h80 ?_
      refine zE 11 (hK79 _ _ ?_)
      refine W.ret ?_
      have hs91 := St.tk0 hs78
      refine ret_of (.bool false) (by kernel_rfl) ⟨_, ⟨congrArg Value.bool (some_inj hm), rfl⟩, hs91⟩
     refine W.sr fun K92 hK92 => ?_
     refine zE 1 (hK92 _ _ ?_)
     refine W.block ?_
     refine W.loop_iter (G := Int) (σ := Int) (fun | p93 => p93) (fun | p93, s_, w_ => (∃ us, s_ = slots 133 [(0, (.string tx_)), (11, (.slice a29 r31.1.length c30)), (13, (zi p93))] us) ∧ St B w [] w_ [kStr.row a29 c30 r31.1]) 0 ⟨slots_intro _ (by kernel_rfl), hs45⟩ hm ?_
     rintro k94 ih95 p93 _ w96 ⟨⟨us, rfl⟩, hs97⟩ hm
     replace hm : pathback_B1 tx_ r31 k94 p93 = some true := hm
     unfold pathback_B1 at hm
     refine W.seq fun K98 hK98 => ?_
     refine W.sr fun K99 hK99 => ?_
     refine zE 4 (hK99 _ _ ?_)
     refine W.cond (decide (p93 < (r31.1.length : Int))) (by kernel_rfl) (fun h100 => ?_) (fun h100 => ?_)
     ·
      obtain ⟨h100p, hm⟩ := iY hm h100
      refine W.skip ?_
      refine hK98 _ _ ?_
      refine W.seq fun K101 hK101 => ?_
      refine W.block ?_
      refine W.sr fun K102 hK102 => ?_
      refine zR 2 ?_
      obtain ⟨h104, hm⟩ := need_some hm
      have hk103 := lt_toNat h104
      refine ops_R (runs_index (a := a29) (n := r31.1.length) (z := p93) (size := 1) p93.toNat (nat_of h104.1) hk103 (kStr.addr (St.kcells kStr hs97 0 rfl) hk103) (by kernel_rfl)) ?_
      refine zL ((adr a29 (p93.toNat * 1)).add 0) (.string (r31.1.getD p93.toNat ByteArray.empty)) (kStr.at (St.kcells kStr hs97 0 rfl) hk103 ByteArray.empty 0 rfl) ?_
      obtain ⟨r105, h106, hm⟩ := bind_some hm
      refine zC00 hs97 (emay_walk (tx_ := (r31.1.getD p93.toNat ByteArray.empty)) (hm := h106) B _) fun w107 hs109 => ?_
      refine zE 1 (hK102 _ _ ?_)
      refine W.cond (!r105) (by kernel_rfl) (fun h110 => ?_) (fun h110 => ?_)
      rotate_left
      ·
       have h110p : r105 = true := (bnot_false h110)
       replace hm := ite_yes hm h110p
       refine W.skip ?_
       refine normal_block ?_
       refine hK101 _ _ ?_
       refine W.region ?_
       refine zR 1 ?_
       obtain ⟨h111, hm⟩ := need_some hm
       refine zI _ (wrap_i64 h111.1 h111.2) ?_
       refine zE 1 ?_
       refine loopAt_next ?_
       exact ih95 (p93 + 1) _ _ ⟨slots_intro _ (by kernel_rfl), hs109⟩ hm
      have h110p : ¬ (r105 = true) := ne_true_of_eq_false (bnot_true h110)
      replace hm := ite_no hm h110p
      refine W.sr fun K112 hK112 => ?_
      refine zE 1 (hK112 _ _ ?_)
      refine W.ret (ret_block (ret_seq (ret_seq (ret_block (ret_seq ?_)))))
      have hs113 := St.tk0 hs109
      refine ret_of (.bool false) (by kernel_rfl) ⟨_, ⟨congrArg Value.bool (some_inj hm), rfl⟩, hs113⟩
     obtain ⟨h100p, hm⟩ := iN hm h100
     refine W.exit (exit_seq (exit_seq (exit_here ?_)))
     exact ⟨slots_intro _ (by kernel_rfl), hs97, hm⟩
    have h46p : ¬ ((r41.toList == tx_.toList) = true) := ne_true_of_eq_false (bnot_true h46)
    replace hm := ite_no hm h46p
    refine zS 85 h46 ?_
    refine zS 84 h46 ?_
    refine zE 4 (hK40 _ _ ?_)
    refine W.cond_true true (by kernel_rfl) rfl ?_
    refine W.sr fun K114 hK114 => ?_
    refine zE 1 (hK114 _ _ ?_)
    refine W.ret (ret_seq ?_)
    have hs115 := St.tk0 hs45
    refine ret_of (.bool false) (by kernel_rfl) ⟨_, ⟨congrArg Value.bool (some_inj hm), rfl⟩, hs115⟩
   have h38p : ¬ (r31.2 = 0) := of_decide_eq_false (bnot_true h38)
   replace hm := ite_no hm h38p
   refine W.sr fun K116 hK116 => ?_
   refine zR 3 ?_
   rcases Bool.eq_false_or_eq_true (decide (r31.2 = 13)) with h117 | h117
   ·
    obtain ⟨h117p, hm⟩ := iY hm h117
    refine zS 73 h117 ?_
    refine zS 72 h117 ?_
    refine zR 5 ?_
    rcases Bool.eq_false_or_eq_true (decide ((r31.1.length : Int) = 0)) with h118 | h118
    ·
     obtain ⟨h118p, hm⟩ := iY hm h118
     refine zS 78 h118 ?_
     refine zS 76 h118 ?_
     refine zS 77 h118 ?_
     obtain ⟨r119, h120, hm⟩ := bind_some hm
     refine zC00 hs35 (works16_walk (hm := h120) B _) fun w121 hs123 => ?_
     refine zE 2 (hK116 _ _ ?_)
     refine W.ret (ret_seq ?_)
     have hs124 := St.tk0 hs123
     refine ret_of (.bool r119) (by kernel_rfl) ⟨_, ⟨congrArg Value.bool (some_inj hm), rfl⟩, hs124⟩
    obtain ⟨h118p, hm⟩ := iN hm h118
    refine zS 78 h118 ?_
    refine zS 76 h118 ?_
    refine zS 77 h118 ?_
    refine zE 3 (hK116 _ _ ?_)
    refine W.ret (ret_seq ?_)
    have hs125 := St.tk0 hs35
    refine ret_of (.bool false) (by kernel_rfl) ⟨_, ⟨congrArg Value.bool (some_inj hm), rfl⟩, hs125⟩
   obtain ⟨h117p, hm⟩ := iN hm h117
   refine zS 73 h117 ?_
   refine zS 72 h117 ?_
   refine zE 8 (hK116 _ _ ?_)
   refine W.ret (ret_seq ?_)
   have hs126 := St.tk0 hs35
   refine ret_of (.bool false) (by kernel_rfl) ⟨_, ⟨congrArg Value.bool (some_inj hm), rfl⟩, hs126⟩
  refine W.sr fun K127 hK127 => ?_
  refine zE 2 (hK127 _ _ ?_)
  refine W.cond (!(r21.toList == ByteArray.empty.toList)) (by kernel_rfl) (fun h128 => ?_) (fun h128 => ?_)
  rotate_left
  ·
   have h128p : (r21.toList == ByteArray.empty.toList) = true := (bnot_false h128)
   replace hm := ite_yes hm h128p
   refine W.skip ?_
   exact ⟨slots_intro _ (by kernel_rfl), hs25, hm⟩
  have h128p : ¬ ((r21.toList == ByteArray.empty.toList) = true) := ne_true_of_eq_false (bnot_true h128)
  replace hm := ite_no hm h128p
  refine W.sr fun K129 hK129 => ?_
  refine zR 1 ?_
  obtain ⟨r132, h133, hm⟩ := bind_some hm
  refine ops_call0 hs25 (by kernel_rfl) (psplit_walk (tx_ := r21) (hm := h133) B _) ?_
  rintro _ _ w134 ⟨a130, c131, rfl, rfl⟩ hs135
  have hs136 := St.ap1 hs135
  refine zE 5 (hK129 _ _ ?_)
  refine W.sr fun K137 hK137 => ?_
  refine zR 3 ?_
  rcases Bool.eq_false_or_eq_true (!decide (r132.2 = 0)) with h138 | h138
  rotate_left
  ·
   have h138p : r132.2 = 0 := of_decide_eq_true (bnot_false h138)
   replace hm := ite_yes hm h138p
   refine zS 53 h138 ?_
   refine zS 52 h138 ?_
   refine zR 2 ?_
   obtain ⟨r139, h140, hm⟩ := bind_some hm
   refine zC00 hs136 (rsame16_walk (xs := r132.1) (ys := xs) (xc := c131) (yc := xc) (hx := (St.kcells kStr hs136 0 rfl)) (hy := (hs136.oldCells hx)) (hm := h140) B _) fun w141 hs143 => ?_
   refine zR 3 ?_
   rcases Bool.eq_false_or_eq_true (!r139) with h144 | h144
   rotate_left
   ·
    have h144p : r139 = true := (bnot_false h144)
    replace hm := ite_yes hm h144p
    refine zS 59 h144 ?_
    refine zS 57 h144 ?_
    refine zS 58 h144 ?_
    refine zE 4 (hK137 _ _ ?_)
    refine W.cond (decide ((r21.size : Int) > 200)) (by kernel_rfl) (fun h145 => ?_) (fun h145 => ?_)
    ·
     obtain ⟨h145p, hm⟩ := iY hm h145
     refine W.sr fun K146 hK146 => ?_
     refine zE 1 (hK146 _ _ ?_)
     refine W.ret (ret_seq ?_)
     have hs147 := St.tk0 hs143
     refine ret_of (.bool false) (by kernel_rfl) ⟨_, ⟨congrArg Value.bool (some_inj hm), rfl⟩, hs147⟩
    obtain ⟨h145p, hm⟩ := iN hm h145
    refine W.skip ?_
    have hs148 := St.tk0 hs143
    exact ⟨slots_intro _ (by kernel_rfl), hs148, hm⟩
   have h144p : ¬ (r139 = true) := ne_true_of_eq_false (bnot_true h144)
   replace hm := ite_no hm h144p
   refine zS 59 h144 ?_
   refine zS 57 h144 ?_
   refine zS 58 h144 ?_
   refine zE 4 (hK137 _ _ ?_)
   refine W.cond_true true (by kernel_rfl) rfl ?_
   refine W.sr fun K149 hK149 => ?_
   refine zE 1 (hK149 _ _ ?_)
   refine W.ret (ret_seq ?_)
   have hs150 := St.tk0 hs143
   refine ret_of (.bool false) (by kernel_rfl) ⟨_, ⟨congrArg Value.bool (some_inj hm), rfl⟩, hs150⟩
  have h138p : ¬ (r132.2 = 0) := of_decide_eq_false (bnot_true h138)
  replace hm := ite_no hm h138p
  refine zS 53 h138 ?_
  refine zS 52 h138 ?_
  refine zE 10 (hK137 _ _ ?_)
  refine W.cond_true true (by kernel_rfl) rfl ?_
  refine W.sr fun K151 hK151 => ?_
  refine zE 1 (hK151 _ _ ?_)
  refine W.ret (ret_seq ?_)
  have hs152 := St.tk0 hs136
  refine ret_of (.bool false) (by kernel_rfl) ⟨_, ⟨congrArg Value.bool (some_inj hm), rfl⟩, hs152⟩
 refine W.sr fun K153 hK153 => ?_
 refine zE 1 (hK153 _ _ ?_)
 refine W.block ?_
 refine W.loop_iter (G := Int) (σ := Int) (fun | p154 => p154) (fun | p154, s_, w_ => (∃ us, s_ = slots 133 [(0, (.string tx_)), (1, (.slice xa xs.length xc)), (7, (zi p154))] us) ∧ St B w [] w_ []) 0 ⟨slots_intro _ (by kernel_rfl), hs⟩ hm ?_
 rintro k155 ih156 p154 _ w157 ⟨⟨us, rfl⟩, hs158⟩ hm
 replace hm : pathback_B0 tx_ xs k155 p154 = some true := hm
 unfold pathback_B0 at hm
 refine W.seq fun K159 hK159 => ?_
 refine W.sr fun K160 hK160 => ?_
 refine zE 4 (hK160 _ _ ?_)
 refine W.cond (decide (p154 < (xs.length : Int))) (by kernel_rfl) (fun h161 => ?_) (fun h161 => ?_)
 ·
  obtain ⟨h161p, hm⟩ := iY hm h161
  refine W.skip ?_
  refine hK159 _ _ ?_
  refine W.seq fun K162 hK162 => ?_
  refine W.block ?_
  refine W.sr fun K163 hK163 => ?_
  refine zR 2 ?_
  obtain ⟨h165, hm⟩ := need_some hm
  have hk164 := lt_toNat h165
  refine ops_R (runs_index (a := xa) (n := xs.length) (z := p154) (size := 1) p154.toNat (nat_of h165.1) hk164 (kStr.addr (hs158.oldCells hx) hk164) (by kernel_rfl)) ?_
  refine zL ((adr xa (p154.toNat * 1)).add 0) (.string (xs.getD p154.toNat ByteArray.empty)) (kStr.at (hs158.oldCells hx) hk164 ByteArray.empty 0 rfl) ?_
  refine zE 2 (hK163 _ _ ?_)
  refine W.cond (decide (((xs.getD p154.toNat ByteArray.empty).size : Int) > 300)) (by kernel_rfl) (fun h166 => ?_) (fun h166 => ?_)
  ·
   obtain ⟨h166p, hm⟩ := iY hm h166
   refine W.sr fun K167 hK167 => ?_
   obtain ⟨r168, h169, hm⟩ := bind_some hm
   refine zC00 hs158 (works16_walk (hm := h169) B _) fun w170 hs172 => ?_
   refine zE 1 (hK167 _ _ ?_)
   refine W.ret (ret_block (ret_seq (ret_seq (ret_block (ret_seq ?_)))))
   refine ret_of (.bool r168) (by kernel_rfl) ⟨_, ⟨congrArg Value.bool (some_inj hm), rfl⟩, hs172⟩
  obtain ⟨h166p, hm⟩ := iN hm h166
  refine W.skip ?_
  refine normal_block ?_
  refine hK162 _ _ ?_
  refine W.region ?_
  refine zR 1 ?_
  obtain ⟨h173, hm⟩ := need_some hm
  refine zI _ (wrap_i64 h173.1 h173.2) ?_
  refine zE 1 ?_
  refine loopAt_next ?_
  exact ih156 (p154 + 1) _ _ ⟨slots_intro _ (by kernel_rfl), hs158⟩ hm
 obtain ⟨h161p, hm⟩ := iN hm h161
 refine W.exit (exit_seq (exit_seq (exit_here ?_)))
 exact ⟨slots_intro _ (by kernel_rfl), hs158, hm⟩
end Go.Proofs.Ytmmclabkkigiaaa

namespace Go.Proofs.Ytmmclabkkigiaaa
open Go Go.RowKit
theorem getD_memB {xs : List ByteArray} {j : Nat} (h : j < xs.length) : xs.getD j ByteArray.empty = xs[j] := by simp [List.getD, h]
theorem mayB_no : mayB (bs []) = false := by decide +kernel
theorem spl_bad {tx : ByteArray} (h : slashB tx = true → tx ≠ ByteArray.mk #[47] ∧ ∃ x ∈ go [] (tx.data.toList.drop 1), mayB (bs x) = false) : spl tx = ([], 13) := by
  unfold spl
  cases hs : slashB tx with
  | false => rw [if_pos (.inr rfl)]
  | true =>
    obtain ⟨h1, x, hx, hm⟩ := h hs
    split
    · rfl
    · rcases fin_out (go [] (tx.data.toList.drop 1)) [] with ⟨a, _⟩ | ⟨_, b⟩
      · rw [a x hx] at hm; cases hm
      · exact b
theorem go_last (l : List UInt8) : ∀ cur, [] ∈ go cur (l ++ [47]) := by
  induction l with
  | nil => intro cur; simp [go]
  | cons b l ih =>
    intro cur
    have hgo : go cur (b :: l ++ [47]) = if b = 47 then cur :: go [] (l ++ [47]) else go (cur ++ [b]) (l ++ [47]) := rfl
    rw [hgo]
    split
    · exact List.mem_cons_of_mem _ (ih _)
    · exact ih _
theorem head_of {tx : ByteArray} (h : slashB tx = true) : ∃ l, tx.data.toList = 47 :: l := by
  unfold slashB at h
  have h := of_decide_eq_true h
  cases hd : tx.data.toList with
  | nil => rw [hd] at h; cases h
  | cons b l => rw [hd] at h; simp at h; rw [h]; exact ⟨l, rfl⟩
theorem spl_yes {tx : ByteArray} (h : (spl tx).2 = 0) : ∃ l, tx.data.toList = 47 :: l ∧ tx.size ≤ 200 ∧ (spl tx).1.all mayB = true ∧ pjS (spl tx).1 = tx ∧ (l = [] ∨ (∃ b t, l = b :: t ∧ b ≠ 47)) := by
  have hne : ¬ ((tx.size : Int) > 200 ∨ slashB tx = false) := fun q => by
    unfold spl at h
    rw [if_pos q] at h
    cases h
  have hs : slashB tx = true := by
    cases hq : slashB tx with
    | true => rfl
    | false => exact absurd (.inr hq) hne
  obtain ⟨l, hl⟩ := head_of hs
  have ha : (spl tx).1.all mayB = true := by
    rcases spl_all tx with ⟨_, a⟩ | a
    · exact a
    · rw [a] at h; cases h
  refine ⟨l, hl, by omega, ha, ?_, ?_⟩
  · unfold spl at h ⊢
    rw [if_neg hne] at h ⊢
    by_cases h1 : tx = ByteArray.mk #[47]
    · rw [if_pos h1, h1]
      decide +kernel
    · rw [if_neg h1] at h ⊢
      rw [hl] at h ⊢
      rw [List.drop_succ_cons, List.drop_zero] at h ⊢
      rcases fin_out (go [] l) [] with ⟨_, b⟩ | ⟨_, b⟩
      · rw [b]
        simp only [List.nil_append]
        cases hg : go [] l with
        | nil => exact absurd hg (go_ne l [])
        | cons x r =>
          rw [List.map_cons, ← bs_data (pjS (bs x :: r.map bs)), pjS_data, List.map_cons, List.map_map, data_bs]
          have e : r.map ((fun s : ByteArray => s.data.toList) ∘ bs) = r := by
            have : ((fun s : ByteArray => s.data.toList) ∘ bs) = id := funext fun z => data_bs z
            rw [this, List.map_id]
          rw [e, ← hg, go_join l [], List.nil_append, ← hl, bs_data]
      · rw [b] at h; cases h
  · unfold spl at h
    rw [if_neg hne] at h
    cases l with
    | nil => exact .inl rfl
    | cons b t =>
      refine .inr ⟨b, t, rfl, fun e => ?_⟩
      subst e
      have h1 : tx ≠ ByteArray.mk #[47] := fun e => by rw [e] at hl; cases hl
      rw [if_neg h1, hl, List.drop_succ_cons, List.drop_zero] at h
      have hgo : go [] (47 :: t) = [] :: go [] t := rfl
      rw [hgo] at h
      unfold fin at h
      rw [mayB_no, if_neg (by decide)] at h
      cases h
theorem pathback_J3_ok {tx_ : ByteArray} (h : (spl tx_).2 = 0) : Ok (· = true) (pathback_J3 tx_) := by
  obtain ⟨l, hl, hs, _, _, hb⟩ := spl_yes h
  have hdl := data_len tx_
  have h47 : (ByteArray.mk #[47]).size = 1 := rfl
  have d47 : (ByteArray.mk #[47]).data.toList = [47] := rfl
  have hsz : 1 ≤ tx_.size := by rw [← hdl, hl]; simp
  unfold pathback_J3
  have e1 : spl (tx_ ++ ByteArray.mk #[47]) = ([], 13) := spl_bad fun _ => by
    have hd : (tx_ ++ ByteArray.mk #[47]).data.toList = 47 :: (l ++ [47]) := by rw [data_append, hl, d47]; rfl
    refine ⟨fun e => ?_, [], ?_, mayB_no⟩
    · have := congrArg ByteArray.size e
      rw [ByteArray.size_append, h47] at this
      omega
    · rw [hd, List.drop_succ_cons, List.drop_zero]
      exact go_last l []
  have e2 : spl (ByteArray.mk #[47] ++ tx_) = ([], 13) := spl_bad fun _ => by
    have hd : (ByteArray.mk #[47] ++ tx_).data.toList = 47 :: 47 :: l := by rw [data_append, hl, d47]; rfl
    refine ⟨fun e => ?_, [], ?_, mayB_no⟩
    · have := congrArg ByteArray.size e
      rw [ByteArray.size_append, h47] at this
      omega
    · rw [hd, List.drop_succ_cons, List.drop_zero]
      show [] ∈ [] :: go [] l
      simp
  have e3 : spl (tx_.extract 1 tx_.size) = ([], 13) := spl_bad fun hq => by
    obtain ⟨m, hm⟩ := head_of hq
    rw [ext_one, hl, List.drop_succ_cons, List.drop_zero] at hm
    rcases hb with rfl | ⟨b, t, rfl, hb⟩
    · cases hm
    · exact absurd (List.cons.inj hm).1 hb
  refine Ok.need (by omega) (Ok.got15 (psplit_eq _) (Ok.need (by omega) (Ok.got15 (psplit_eq _) (Ok.need (by omega) (Ok.got15 (psplit_eq _) ?_)))))
  rw [e1, e2, e3]
  exact Ok.yes rfl (Ok.yes rfl (Ok.yes rfl works16_stop))
theorem pathback_J2_ok {tx_ : ByteArray} : Ok (· = true) (pathback_J2 tx_) := by
  unfold pathback_J2
  have hsl := spl_len tx_
  refine Ok.got15 (psplit_eq tx_) (Ok.ite (fun h => ?_) fun h => ?_)
  · obtain ⟨l, hl, hs, ha, hj, hb⟩ := spl_yes h
    have hdl := data_len tx_
    have hsz : 1 ≤ tx_.size := by rw [← hdl, hl]; simp
    have hall : ∀ x ∈ (spl tx_).1, x.size ≤ 1000 := fun x hx => by
      have := mayB_iff.1 (List.all_eq_true.1 ha x hx)
      omega
    refine Ok.got15 (pjoin_eq (by omega) hall) ?_
    have e : pj (spl tx_).1 = tx_ := by
      unfold pj
      rw [if_pos ⟨ha, by rw [hj]; exact hs⟩, hj]
    rw [e]
    refine Ok.yes (beq_toList.2 rfl) (Ok.no (by omega) ?_)
    refine Ok.iter (fun p : Int => 0 ≤ p ∧ p ≤ ((spl tx_).1.length : Int)) (fun p => (((spl tx_).1.length : Int) - p).toNat) ?_ _ _ ⟨by omega, by omega⟩ (fuel_lt (by omega))
    rintro k p ⟨h3, h4⟩ ih
    unfold pathback_B1
    refine Ok.ite (fun hp => Ok.need (by omega) (Ok.got15 (emay_eq _) ?_)) fun hp => pathback_J3_ok h
    have hpl : p.toNat < (spl tx_).1.length := by omega
    rw [getD_memB hpl, List.all_eq_true.1 ha _ (List.getElem_mem hpl)]
    exact Ok.yes rfl (Ok.need (by omega) (ih _ ⟨by omega, by omega⟩ (by omega)))
  · rcases spl_all tx_ with ⟨a, _⟩ | a
    · exact absurd a h
    · rw [a]
      exact Ok.yes rfl (Ok.yes rfl works16_stop)
theorem pathback_law {tx_ : ByteArray} {xs : List ByteArray} : pathback_M tx_ xs = some true := by
  refine Ok.true ?_
  unfold pathback_M
  refine Ok.ite (fun _ => works16_stop) fun h1 => Ok.ite (fun _ => works16_stop) fun h2 => ?_
  refine Ok.iter (fun p : Int => 0 ≤ p ∧ p ≤ (xs.length : Int) ∧ ∀ j : Nat, j < p.toNat → (xs.getD j ByteArray.empty).size ≤ 300) (fun p => ((xs.length : Int) - p).toNat) ?_ _ _ ⟨by omega, by omega, fun j hj => absurd hj (Nat.not_lt_zero _)⟩ (fuel_lt (by omega))
  rintro k p ⟨h3, h4, h5⟩ ih
  unfold pathback_B0
  refine Ok.ite (fun hp => Ok.need (by omega) (Ok.ite (fun _ => works16_stop) fun h6 => Ok.need (by omega) (ih _ ⟨by omega, by omega, fun j hj => ?_⟩ (by omega)))) fun hp => ?_
  · by_cases e : j = p.toNat
    · rw [e]; omega
    · exact h5 j (by omega)
  · have hall : ∀ x ∈ xs, x.size ≤ 1000 := fun x hx => by
      obtain ⟨j, hj, rfl⟩ := List.getElem_of_mem hx
      have := h5 j (by omega)
      rw [getD_memB hj] at this
      omega
    unfold pathback_J1
    refine Ok.got15 (pjoin_eq (by omega) hall) (Ok.ite (fun _ => pathback_J2_ok) fun hne => ?_)
    have hp : xs.all mayB = true ∧ (pjS xs).size ≤ 200 := by
      by_cases hq : xs.all mayB = true ∧ (pjS xs).size ≤ 200
      · exact hq
      · have : pj xs = ByteArray.empty := by unfold pj; rw [if_neg hq]
        rw [this] at hne
        exact absurd (beq_toList.2 rfl) hne
    have e : pj xs = pjS xs := by unfold pj; rw [if_pos hp]
    have hspl := spl_join hp.1 hp.2
    rw [e]
    refine Ok.got15 ((psplit_eq _).trans (congrArg some hspl)) (Ok.yes rfl (Ok.got15 (rsame16_eq _ _ (by simp only; omega)) ?_))
    rw [decide_eq_true rfl]
    exact Ok.yes rfl (Ok.no (by omega) pathback_J2_ok)
end Go.Proofs.Ytmmclabkkigiaaa
