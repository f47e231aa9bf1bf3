/- Texts, one behind the other: ALeNa, PLeNa. -/
import Derived.Test.YtmmclabkkigiaaaGreatDoorQEN6
set_option linter.unusedVariables false
set_option linter.unusedSimpArgs false
set_option linter.unusedVariables false
set_option maxRecDepth 20000
set_option maxHeartbeats 4000000
namespace Go.Proofs.YtmmclabkkigiaaaGreatDoor
open Go Go.RowKit
set_option linter.unusedSimpArgs false
set_option linter.unusedVariables false

def entrynames_J2 (tx_ : ByteArray) (r17 : Int) (p20 : ByteArray) : Option (Bool) :=
 if (tx_.size : Int) ≥ 1 then (if (tx_.size : Int) ≤ 40 then (need ((0 : Int) ≤ 0 ∧ (0 : Int) ≤ r17 ∧ r17 ≤ (tx_.size : Int)) <|
need ((tx_.extract 0 r17.toNat).size + p20.size ≤ 9223372036854775807) <|
need ((0 : Int) ≤ r17 ∧ (r17 : Int) ≤ (tx_.size : Int) ∧ (tx_.size : Int) ≤ (tx_.size : Int)) <|
need (((tx_.extract 0 r17.toNat) ++ p20).size + (tx_.extract r17.toNat tx_.size).size ≤ 9223372036854775807) <|
(emay_M (((tx_.extract 0 r17.toNat) ++ p20) ++ (tx_.extract r17.toNat tx_.size))).bind fun r31 =>
if r31 = true then (some false) else ((ebegin_M tx_).bind fun r37 =>
(opack_M tx_).bind fun r44 =>
(sumof_M r44).bind fun r50 =>
need (-9223372036854775808 ≤ (r50.tmod 12) ∧ (r50.tmod 12) ≤ 9223372036854775807) <|
if r37 = r50.tmod 12 then ((works15_M).bind fun r58 =>
some r58) else (some false))) else (some false)) else (some false)

def entrynames_J1 (tx_ : ByteArray) (at_ : Int) (z_ : Bool) : Option (Bool) :=
 need (-9223372036854775808 ≤ at_ ∧ at_ ≤ 9223372036854775807) <|
need (-9223372036854775808 ≤ ((tx_.size : Int) + 1) ∧ ((tx_.size : Int) + 1) ≤ 9223372036854775807) <|
need (¬ (((tx_.size : Int) + 1) = 0)) <|
(some (at_.tmod ((tx_.size : Int) + 1))).bind fun r17 =>
if z_ = true then (entrynames_J2 tx_ r17 (ByteArray.mk #[0])) else (entrynames_J2 tx_ r17 (ByteArray.mk #[47]))

def entrynames_J4 (p86 : Bool) : Option (Bool) :=
 if p86 = true then ((works15_M).bind fun r91 =>
some r91) else (some false)

def entrynames_B0 (tx_ : ByteArray) (k99 : (Bool × Int) → Option (Bool)) (p97 : Bool) (p98 : Int) : Option (Bool) :=
 if p98 < (tx_.size : Int) then (if p97 = true then (need (-9223372036854775808 ≤ (p98 + 1) ∧ (p98 + 1) ≤ 9223372036854775807) <|
k99 (true, (p98 + 1))) else (need (0 ≤ p98 ∧ p98 < (tx_.size : Int)) <|
if (sbyte tx_ p98) = 0 then (need (-9223372036854775808 ≤ (p98 + 1) ∧ (p98 + 1) ≤ 9223372036854775807) <|
k99 (true, (p98 + 1))) else (need (0 ≤ p98 ∧ p98 < (tx_.size : Int)) <|
need (-9223372036854775808 ≤ (p98 + 1) ∧ (p98 + 1) ≤ 9223372036854775807) <|
k99 (decide ((sbyte tx_ p98) = 47), (p98 + 1))))) else (entrynames_J4 p97)

def entrynames_J3 (tx_ : ByteArray) (p83 : Bool) : Option (Bool) :=
 iter (fun k_ s_ => entrynames_B0 tx_ k_ s_.1 s_.2) FUEL (p83, 0)

def entrynames_M (tx_ : ByteArray) (at_ : Int) (z_ : Bool) : Option (Bool) :=
 if (tx_.size : Int) > 500 then ((works15_M).bind fun r6 =>
some r6) else ((emay_M tx_).bind fun r69 =>
if r69 = true then (entrynames_J1 tx_ at_ z_) else ((ebegin_M tx_).bind fun r77 =>
if r77 = 0 then (if (tx_.size : Int) = 0 then (entrynames_J3 tx_ true) else (if (tx_.size : Int) > 40 then (entrynames_J3 tx_ true) else (if (tx_.toList == (ByteArray.mk #[46]).toList) = true then (entrynames_J3 tx_ true) else (entrynames_J3 tx_ (tx_.toList == (ByteArray.mk #[46, 46]).toList))))) else (some false)))

theorem entrynames_walk {tx_ : ByteArray} {at_ : Int} {z_ : Bool}   (B : Nat) (w : World) (hB : w.heap.size = B) (hT : CellsAt (some ⟨1, 0, none⟩) tab8 w) (hm : entrynames_M tx_ at_ z_ = some true) : Spec Tryz.prog 3 #[(.string tx_), (.int .u8 at_), (.bool z_)] B w [] (fun v H' => v = .bool true ∧ H' = []) := by
 refine spec_Q Tryz.func3 rfl fun hs => ?_
 unfold entrynames_M at hm
 have hG : 1 < B := by rw [← hB]; exact lt_of_cells hT (v := .int .u8 0) (by kernel_rfl)
 refine W.sr fun K1 hK1 => ?_
 refine zE 1 (hK1 _ _ ?_)
 refine W.seq fun K2 hK2 => ?_
 refine W.sr fun K3 hK3 => ?_
 refine zE 3 (hK3 _ _ ?_)
 refine W.cond (decide ((tx_.size : Int) > 500)) (by kernel_rfl) (fun h4 => ?_) (fun h4 => ?_)
 ·
  obtain ⟨h4p, hm⟩ := iY hm h4
  refine W.sr fun K5 hK5 => ?_
  obtain ⟨r6, h7, hm⟩ := bind_some hm
  refine zC00 hs (works15_walk (hG := hG) (hT := (hs.oldCells hT)) (hm := h7) B _) fun w8 hs10 => ?_
  refine zE 1 (hK5 _ _ ?_)
  refine W.ret (ret_seq ?_)
  refine ret_of (.bool r6) (by kernel_rfl) ⟨_, ⟨congrArg Value.bool (some_inj hm), rfl⟩, hs10⟩
 ·
  obtain ⟨h4p, hm⟩ := iN hm h4
  refine W.skip ?_
  refine hK2 _ _ ?_
  refine W.seq_join (fun s_ w_ => (∃ us, s_ = slots 101 [(0, (.string tx_)), (1, (.int .u8 at_)), (2, (.bool z_))] us) ∧ St B w [] w_ [] ∧ entrynames_J1 tx_ at_ z_ = some true) ?_ ?_
  ·
   rintro _ w11 ⟨⟨us, rfl⟩, hs12, hm⟩
   unfold entrynames_J1 at hm
   refine W.sr fun K13 hK13 => ?_
   refine zR 1 ?_
   obtain ⟨h14, hm⟩ := need_some hm
   refine zI _ (wrap_i64 h14.1 h14.2) ?_
   refine zR 2 ?_
   obtain ⟨h15, hm⟩ := need_some hm
   refine zI _ (wrap_i64 h15.1 h15.2) ?_
   obtain ⟨h16, hm⟩ := need_some hm
   refine ops_R (v := .int .i64 (at_.tmod ((tx_.size : Int) + 1))) (runs_rem (k := .i64) (a := at_) (b := ((tx_.size : Int) + 1)) (by kernel_rfl) h16 rfl) ?_
   refine zR 1 ?_
   obtain ⟨r17, h18, hm⟩ := bind_some hm
   replace h18 := some_inj h18
   refine ops_set 9 (v := .int .i64 r17) (Eq.trans (by kernel_rfl) (congrArg (Value.int .i64) h18)) ?_
   refine zD (hK13 _ _ ?_)
   refine W.sr fun K19 hK19 => ?_
   refine zE 1 (hK19 _ _ ?_)
   refine W.seq_join (fun s_ w_ => ∃ (p20 : ByteArray), (∃ us, s_ = slots 101 [(0, (.string tx_)), (9, (.int .i64 r17)), (10, (.string p20))] us) ∧ St B w [] w_ [] ∧ entrynames_J2 tx_ r17 p20 = some true) ?_ ?_
   ·
    rintro _ w21 ⟨p20, ⟨us, rfl⟩, hs22, hm⟩
    unfold entrynames_J2 at hm
    refine W.seq fun K23 hK23 => ?_
    have hs24 := hs22.drew
    refine W.regionD [(0, 0), (1, 1), (2, 2), (4, 4), (8, 8), (24, 24), (40, 40), (72, 72), (136, 128), (256, 256), (256, 256), (1792, 1792), (256, 256), (6400, 6400), (256, 256), (256, 256), (49408, 49408), (73984, 73984), (131328, 131328), (262400, 262400), (524544, 524544), (1310720, 1048576), (2097152, 2097152), (6291456, 6291456), (2097152, 2097152), (27262976, 18874368), (35651584, 35651584), (69206016, 69206016), (136314880, 136314880), (278921216, 278921216), (538968064, 538968064), (1140850688, 1073741824), (2147483648, 2147483648), (6442450944, 6442450944), (17179869183, 8589934592)] (fun w_ => St B w [] w_ []) (by kernel_rfl) hs24 ?_
    refine any_val (v := (.string tx_)) (v' := (.string tx_)) 0 (by kernel_rfl) (fun _ => by kernel_rfl) rfl hs24 ?_
    refine any_val (v := (.int .i64 (tx_.size : Int))) (v' := (.int .i64 (tx_.size : Int))) 1 (by kernel_rfl) (fun _ => by kernel_rfl) rfl hs24 ?_
    refine any_val (v := (.bool (decide ((tx_.size : Int) ≥ 1)))) (v' := (.bool (decide ((tx_.size : Int) ≥ 1)))) 2 (by kernel_rfl) (fun _ => by kernel_rfl) rfl hs24 ?_
    refine any_val (v := (.bool (decide ((tx_.size : Int) ≥ 1)))) (v' := (.bool (decide ((tx_.size : Int) ≥ 1)))) 3 (by kernel_rfl) (fun _ => by kernel_rfl) rfl hs24 ?_
    rcases Bool.eq_false_or_eq_true (decide ((tx_.size : Int) ≥ 1)) with h25 | h25
    ·
     obtain ⟨h25p, hm⟩ := iY hm h25
     refine any_set 69 (v := .bool true) (eq_bool_of (by kernel_rfl) h25) ?_
     refine any_set 70 (v := .bool true) (eq_bool_of (by kernel_rfl) h25) ?_
     refine any_val (v := (.string tx_)) (v' := (.string tx_)) 4 (by kernel_rfl) (fun _ => by kernel_rfl) rfl hs24 ?_
     refine any_val (v := (.int .i64 (tx_.size : Int))) (v' := (.int .i64 (tx_.size : Int))) 5 (by kernel_rfl) (fun _ => by kernel_rfl) rfl hs24 ?_
     refine any_val (v := (.bool (decide ((tx_.size : Int) ≤ 40)))) (v' := (.bool (decide ((tx_.size : Int) ≤ 40)))) 6 (by kernel_rfl) (fun _ => by kernel_rfl) rfl hs24 ?_
     refine any_val (v := (.bool (decide ((tx_.size : Int) ≤ 40)))) (v' := (.bool (decide ((tx_.size : Int) ≤ 40)))) 7 (by kernel_rfl) (fun _ => by kernel_rfl) rfl hs24 ?_
     refine any_val (v := (.bool (decide ((tx_.size : Int) ≤ 40)))) (v' := (.bool (decide ((tx_.size : Int) ≤ 40)))) 8 (by kernel_rfl) (fun _ => by kernel_rfl) rfl hs24 ?_
     rcases Bool.eq_false_or_eq_true (decide ((tx_.size : Int) ≤ 40)) with h26 | h26
     ·
      obtain ⟨h26p, hm⟩ := iY hm h26
      refine any_set 73 (v := .bool true) (eq_bool_of (by kernel_rfl) h26) ?_
      refine any_set 74 (v := .bool true) (eq_bool_of (by kernel_rfl) h26) ?_
      refine any_set 75 (v := .bool true) (eq_bool_of (by kernel_rfl) h26) ?_
      refine any_val (v := (.string tx_)) (v' := (.string tx_)) 9 (by kernel_rfl) (fun _ => by kernel_rfl) rfl hs24 ?_
      refine any_val (v := (.int .i64 r17)) (v' := (.int .i64 r17)) 10 (by kernel_rfl) (fun _ => by kernel_rfl) rfl hs24 ?_
      obtain ⟨h27, hm⟩ := need_some hm
      refine any_R (v := (.string (tx_.extract 0 r17.toNat))) 11 (by kernel_rfl) (fun _ hS_ => runs_strSlice (b := tx_) (lo := none) (hi := (some r17)) 0 r17.toNat (.inr ⟨rfl, rfl⟩) (.inl (congrArg some (nat_of (Int.le_trans h27.1 h27.2.1)))) (by omega) (by omega) (by kernel_rfl)) hs24 ?_
      refine any_val (v := (.string p20)) (v' := (.string p20)) 12 (by kernel_rfl) (fun _ => by kernel_rfl) rfl hs24 ?_
      obtain ⟨h28, hm⟩ := need_some hm
      refine any_R (v := (.string ((tx_.extract 0 r17.toNat) ++ p20))) 13 (by kernel_rfl) (fun _ hS_ => runs_strAdd (a := (tx_.extract 0 r17.toNat)) (b := p20) h28 (by kernel_rfl)) hs24 ?_
      refine any_val (v := (.string tx_)) (v' := (.string tx_)) 14 (by kernel_rfl) (fun _ => by kernel_rfl) rfl hs24 ?_
      refine any_val (v := (.int .i64 r17)) (v' := (.int .i64 r17)) 15 (by kernel_rfl) (fun _ => by kernel_rfl) rfl hs24 ?_
      obtain ⟨h29, hm⟩ := need_some hm
      refine any_R (v := (.string (tx_.extract r17.toNat tx_.size))) 16 (by kernel_rfl) (fun _ hS_ => runs_strSlice (b := tx_) (lo := (some r17)) (hi := none) r17.toNat tx_.size (.inl (congrArg some (nat_of h29.1))) (.inr ⟨rfl, rfl⟩) (by omega) (by omega) (by kernel_rfl)) hs24 ?_
      obtain ⟨h30, hm⟩ := need_some hm
      refine any_R (v := (.string (((tx_.extract 0 r17.toNat) ++ p20) ++ (tx_.extract r17.toNat tx_.size)))) 17 (by kernel_rfl) (fun _ hS_ => runs_strAdd (a := ((tx_.extract 0 r17.toNat) ++ p20)) (b := (tx_.extract r17.toNat tx_.size)) h30 (by kernel_rfl)) hs24 ?_
      refine any_step 18 (by kernel_rfl) (by kernel_rfl) ?_
      obtain ⟨r31, h32, hm⟩ := bind_some hm
      refine zC00 hs24 (emay_walk (tx_ := (((tx_.extract 0 r17.toNat) ++ p20) ++ (tx_.extract r17.toNat tx_.size))) (hm := h32) B _) fun w33 hs35 => ?_
      refine ops_done (by kernel_rfl) ⟨hs35, ?_⟩
      refine any_val (v := (.bool (!r31))) (v' := (.bool (!r31))) 19 (by kernel_rfl) (fun _ => by kernel_rfl) rfl hs35 ?_
      refine any_val (v := (.bool (!r31))) (v' := (.bool (!r31))) 20 (by kernel_rfl) (fun _ => by kernel_rfl) rfl hs35 ?_
      refine any_val (v := (.bool (!r31))) (v' := (.bool (!r31))) 21 (by kernel_rfl) (fun _ => by kernel_rfl) rfl hs35 ?_
      rcases Bool.eq_false_or_eq_true (!r31) with h36 | h36
      rotate_left
      ·
       have h36p : r31 = true := (bnot_false h36)
       replace hm := ite_yes hm h36p
       refine any_set 86 (v := .bool false) (eq_bool_of (by kernel_rfl) h36) ?_
       refine any_set 87 (v := .bool false) (eq_bool_of (by kernel_rfl) h36) ?_
       refine any_set 88 (v := .bool false) (eq_bool_of (by kernel_rfl) h36) ?_
       refine any_skip 22 (by kernel_rfl) (by kernel_rfl) hs35 ?_
       refine any_skip 23 (by kernel_rfl) (by kernel_rfl) hs35 ?_
       refine any_skip 24 (by kernel_rfl) (by kernel_rfl) hs35 ?_
       refine any_skip 25 (by kernel_rfl) (by kernel_rfl) hs35 ?_
       refine any_skip 26 (by kernel_rfl) (by kernel_rfl) hs35 ?_
       refine any_skip 27 (by kernel_rfl) (by kernel_rfl) hs35 ?_
       refine any_skip 28 (by kernel_rfl) (by kernel_rfl) hs35 ?_
       refine any_skip 29 (by kernel_rfl) (by kernel_rfl) hs35 ?_
       refine any_val (v := (.bool false)) (v' := (.bool false)) 30 (by kernel_rfl) (fun _ => by kernel_rfl) rfl hs35 ?_
       refine any_val (v := (.bool false)) (v' := (.bool false)) 31 (by kernel_rfl) (fun _ => by kernel_rfl) rfl hs35 ?_
       refine any_skip 32 (by kernel_rfl) (by kernel_rfl) hs35 ?_
       refine any_val (v := (.bool false)) (v' := (.bool false)) 33 (by kernel_rfl) (fun _ => by kernel_rfl) rfl hs35 ?_
       refine any_val (v := (.bool false)) (v' := (.bool false)) 34 (by kernel_rfl) (fun _ => by kernel_rfl) rfl hs35 ?_
       refine any_done (by kernel_rfl) ?_
       refine hK23 _ _ ?_
       refine W.ret ?_
       refine ret_of (.bool false) (by kernel_rfl) ⟨_, ⟨congrArg Value.bool (some_inj hm), rfl⟩, hs35⟩
      ·
       have h36p : ¬ (r31 = true) := ne_true_of_eq_false (bnot_true h36)
       replace hm := ite_no hm h36p
       refine any_set 86 (v := .bool true) (eq_bool_of (by kernel_rfl) h36) ?_
       refine any_set 87 (v := .bool true) (eq_bool_of (by kernel_rfl) h36) ?_
       refine any_set 88 (v := .bool true) (eq_bool_of (by kernel_rfl) h36) ?_
       refine any_val (v := (.string tx_)) (v' := (.string tx_)) 22 (by kernel_rfl) (fun _ => by kernel_rfl) rfl hs35 ?_
       refine any_val (v := (.string tx_)) (v' := (.string tx_)) 24 (by kernel_rfl) (fun _ => by kernel_rfl) rfl hs35 ?_
       refine any_step 23 (by kernel_rfl) (by kernel_rfl) ?_
       obtain ⟨r37, h38, hm⟩ := bind_some hm
       refine zC00 hs35 (ebegin_walk (tx_ := tx_) (hm := h38) B _) fun w39 hs41 => ?_
       refine ops_done (by kernel_rfl) ⟨hs41, ?_⟩
       refine any_step 25 (by kernel_rfl) (by kernel_rfl) ?_
       obtain ⟨r44, h45, hm⟩ := bind_some hm
       refine ops_call0 hs41 (by kernel_rfl) (opack_walk (hm := h45) B _) ?_
       rintro _ _ w46 ⟨a42, c43, rfl, rfl⟩ hs47
       have hs48 := St.ap1 hs47
       have hs49 := St.tk0 hs48
       refine ops_done (by kernel_rfl) ⟨hs49, ?_⟩
       refine any_step 26 (by kernel_rfl) (by kernel_rfl) ?_
       obtain ⟨r50, h51, hm⟩ := bind_some hm
       refine zC11 hs48 (sumof_walk (wa := a42) (wc := c43) (ws := r44) (hm := h51) B _) fun w52 hs54 => ?_
       have hs55 := St.tk0 hs54
       refine ops_done (by kernel_rfl) ⟨hs55, ?_⟩
       refine any_val (v := (.int .u64 (r50.tmod 12))) (v' := (.int .u64 (r50.tmod 12))) 27 (by kernel_rfl) (fun _ => by kernel_rfl) rfl hs55 ?_
       obtain ⟨h56, hm⟩ := need_some hm
       refine any_val (v := .int .i64 (IntKind.i64.wrap (r50.tmod 12))) (v' := .int .i64 (r50.tmod 12)) 28 (by kernel_rfl) (fun _ => by kernel_rfl) (congrArg (Value.int .i64) (wrap_i64 h56.1 h56.2)) hs55 ?_
       refine any_val (v := (.bool (decide (r37 = r50.tmod 12)))) (v' := (.bool (decide (r37 = r50.tmod 12)))) 29 (by kernel_rfl) (fun _ => by kernel_rfl) rfl hs55 ?_
       refine any_val (v := (.bool (decide (r37 = r50.tmod 12)))) (v' := (.bool (decide (r37 = r50.tmod 12)))) 30 (by kernel_rfl) (fun _ => by kernel_rfl) rfl hs55 ?_
       refine any_val (v := (.bool (decide (r37 = r50.tmod 12)))) (v' := (.bool (decide (r37 = r50.tmod 12)))) 31 (by kernel_rfl) (fun _ => by kernel_rfl) rfl hs55 ?_
       rcases Bool.eq_false_or_eq_true (decide (r37 = r50.tmod 12)) with h57 | h57
       ·
        obtain ⟨h57p, hm⟩ := iY hm h57
        refine any_set 96 (v := .bool true) (eq_bool_of (by kernel_rfl) h57) ?_
        refine any_set 97 (v := .bool true) (eq_bool_of (by kernel_rfl) h57) ?_
        refine any_set 98 (v := .bool true) (eq_bool_of (by kernel_rfl) h57) ?_
        refine any_step 32 (by kernel_rfl) (by kernel_rfl) ?_
        obtain ⟨r58, h59, hm⟩ := bind_some hm
        refine zC00 hs54 (works15_walk (hG := hG) (hT := (hs54.oldCells hT)) (hm := h59) B _) fun w60 hs62 => ?_
        have hs63 := St.tk0 hs62
        refine ops_done (by kernel_rfl) ⟨hs63, ?_⟩
        refine any_val (v := (.bool r58)) (v' := (.bool r58)) 33 (by kernel_rfl) (fun _ => by kernel_rfl) rfl hs63 ?_
        refine any_val (v := (.bool r58)) (v' := (.bool r58)) 34 (by kernel_rfl) (fun _ => by kernel_rfl) rfl hs63 ?_
        refine any_done (by kernel_rfl) ?_
        refine hK23 _ _ ?_
        refine W.ret ?_
        have hs64 := St.tk0 hs62
        refine ret_of (.bool r58) (by kernel_rfl) ⟨_, ⟨congrArg Value.bool (some_inj hm), rfl⟩, hs64⟩
       ·
        obtain ⟨h57p, hm⟩ := iN hm h57
        refine any_set 96 (v := .bool false) (eq_bool_of (by kernel_rfl) h57) ?_
        refine any_set 97 (v := .bool false) (eq_bool_of (by kernel_rfl) h57) ?_
        refine any_set 98 (v := .bool false) (eq_bool_of (by kernel_rfl) h57) ?_
        refine any_skip 32 (by kernel_rfl) (by kernel_rfl) hs55 ?_
        refine any_val (v := (.bool false)) (v' := (.bool false)) 33 (by kernel_rfl) (fun _ => by kernel_rfl) rfl hs55 ?_
        refine any_val (v := (.bool false)) (v' := (.bool false)) 34 (by kernel_rfl) (fun _ => by kernel_rfl) rfl hs55 ?_
        refine any_done (by kernel_rfl) ?_
        refine hK23 _ _ ?_
        refine W.ret ?_
        have hs65 := St.tk0 hs54
        refine ret_of (.bool false) (by kernel_rfl) ⟨_, ⟨congrArg Value.bool (some_inj hm), rfl⟩, hs65⟩
     ·
      obtain ⟨h26p, hm⟩ := iN hm h26
      refine any_set 73 (v := .bool false) (eq_bool_of (by kernel_rfl) h26) ?_
      refine any_set 74 (v := .bool false) (eq_bool_of (by kernel_rfl) h26) ?_
      refine any_set 75 (v := .bool false) (eq_bool_of (by kernel_rfl) h26) ?_
      refine any_skip 9 (by kernel_rfl) (by kernel_rfl) hs24 ?_
      refine any_skip 10 (by kernel_rfl) (by kernel_rfl) hs24 ?_
      refine any_skip 11 (by kernel_rfl) (by kernel_rfl) hs24 ?_
      refine any_skip 12 (by kernel_rfl) (by kernel_rfl) hs24 ?_
      refine any_skip 13 (by kernel_rfl) (by kernel_rfl) hs24 ?_
      refine any_skip 14 (by kernel_rfl) (by kernel_rfl) hs24 ?_
      refine any_skip 15 (by kernel_rfl) (by kernel_rfl) hs24 ?_
      refine any_skip 16 (by kernel_rfl) (by kernel_rfl) hs24 ?_
      refine any_skip 17 (by kernel_rfl) (by kernel_rfl) hs24 ?_
      refine any_skip 18 (by kernel_rfl) (by kernel_rfl) hs24 ?_
      refine any_skip 19 (by kernel_rfl) (by kernel_rfl) hs24 ?_
      refine any_val (v := (.bool false)) (v' := (.bool false)) 20 (by kernel_rfl) (fun _ => by kernel_rfl) rfl hs24 ?_
      refine any_val (v := (.bool false)) (v' := (.bool false)) 21 (by kernel_rfl) (fun _ => by kernel_rfl) rfl hs24 ?_
      refine any_skip 22 (by kernel_rfl) (by kernel_rfl) hs24 ?_
      refine any_skip 23 (by kernel_rfl) (by kernel_rfl) hs24 ?_
      refine any_skip 24 (by kernel_rfl) (by kernel_rfl) hs24 ?_
      refine any_skip 25 (by kernel_rfl) (by kernel_rfl) hs24 ?_
      refine any_skip 26 (by kernel_rfl) (by kernel_rfl) hs24 ?_
      refine any_skip 27 (by kernel_rfl) (by kernel_rfl) hs24 ?_
      refine any_skip 28 (by kernel_rfl) (by kernel_rfl) hs24 ?_
      refine any_skip 29 (by kernel_rfl) (by kernel_rfl) hs24 ?_
      refine any_val (v := (.bool false)) (v' := (.bool false)) 30 (by kernel_rfl) (fun _ => by kernel_rfl) rfl hs24 ?_
      refine any_val (v := (.bool false)) (v' := (.bool false)) 31 (by kernel_rfl) (fun _ => by kernel_rfl) rfl hs24 ?_
      refine any_skip 32 (by kernel_rfl) (by kernel_rfl) hs24 ?_
      refine any_val (v := (.bool false)) (v' := (.bool false)) 33 (by kernel_rfl) (fun _ => by kernel_rfl) rfl hs24 ?_
      refine any_val (v := (.bool false)) (v' := (.bool false)) 34 (by kernel_rfl) (fun _ => by kernel_rfl) rfl hs24 ?_
      refine any_done (by kernel_rfl) ?_
      refine hK23 _ _ ?_
      refine W.ret ?_
      refine ret_of (.bool false) (by kernel_rfl) ⟨_, ⟨congrArg Value.bool (some_inj hm), rfl⟩, hs24⟩
    ·
     obtain ⟨h25p, hm⟩ := iN hm h25
     refine any_set 69 (v := .bool false) (eq_bool_of (by kernel_rfl) h25) ?_
     refine any_set 70 (v := .bool false) (eq_bool_of (by kernel_rfl) h25) ?_
     refine any_skip 4 (by kernel_rfl) (by kernel_rfl) hs24 ?_
     refine any_skip 5 (by kernel_rfl) (by kernel_rfl) hs24 ?_
     refine any_skip 6 (by kernel_rfl) (by kernel_rfl) hs24 ?_
     refine any_val (v := (.bool false)) (v' := (.bool false)) 7 (by kernel_rfl) (fun _ => by kernel_rfl) rfl hs24 ?_
     refine any_val (v := (.bool false)) (v' := (.bool false)) 8 (by kernel_rfl) (fun _ => by kernel_rfl) rfl hs24 ?_
     refine any_skip 9 (by kernel_rfl) (by kernel_rfl) hs24 ?_
     refine any_skip 10 (by kernel_rfl) (by kernel_rfl) hs24 ?_
     refine any_skip 11 (by kernel_rfl) (by kernel_rfl) hs24 ?_
     refine any_skip 12 (by kernel_rfl) (by kernel_rfl) hs24 ?_
     refine any_skip 13 (by kernel_rfl) (by kernel_rfl) hs24 ?_
     refine any_skip 14 (by kernel_rfl) (by kernel_rfl) hs24 ?_
     refine any_skip 15 (by kernel_rfl) (by kernel_rfl) hs24 ?_
     refine any_skip 16 (by kernel_rfl) (by kernel_rfl) hs24 ?_
     refine any_skip 17 (by kernel_rfl) (by kernel_rfl) hs24 ?_
     refine any_skip 18 (by kernel_rfl) (by kernel_rfl) hs24 ?_
     refine any_skip 19 (by kernel_rfl) (by kernel_rfl) hs24 ?_
     refine any_val (v := (.bool false)) (v' := (.bool false)) 20 (by kernel_rfl) (fun _ => by kernel_rfl) rfl hs24 ?_
     refine any_val (v := (.bool false)) (v' := (.bool false)) 21 (by kernel_rfl) (fun _ => by kernel_rfl) rfl hs24 ?_
     refine any_skip 22 (by kernel_rfl) (by kernel_rfl) hs24 ?_
     refine any_skip 23 (by kernel_rfl) (by kernel_rfl) hs24 ?_
     refine any_skip 24 (by kernel_rfl) (by kernel_rfl) hs24 ?_
     refine any_skip 25 (by kernel_rfl) (by kernel_rfl) hs24 ?_
     refine any_skip 26 (by kernel_rfl) (by kernel_rfl) hs24 ?_
     refine any_skip 27 (by kernel_rfl) (by kernel_rfl) hs24 ?_
     refine any_skip 28 (by kernel_rfl) (by kernel_rfl) hs24 ?_
     refine any_skip 29 (by kernel_rfl) (by kernel_rfl) hs24 ?_
     refine any_val (v := (.bool false)) (v' := (.bool false)) 30 (by kernel_rfl) (fun _ => by kernel_rfl) rfl hs24 ?_
     refine any_val (v := (.bool false)) (v' := (.bool false)) 31 (by kernel_rfl) (fun _ => by kernel_rfl) rfl hs24 ?_
     refine any_skip 32 (by kernel_rfl) (by kernel_rfl) hs24 ?_
     refine any_val (v := (.bool false)) (v' := (.bool false)) 33 (by kernel_rfl) (fun _ => by kernel_rfl) rfl hs24 ?_
     refine any_val (v := (.bool false)) (v' := (.bool false)) 34 (by kernel_rfl) (fun _ => by kernel_rfl) rfl hs24 ?_
     refine any_done (by kernel_rfl) ?_
     refine hK23 _ _ ?_
     refine W.ret ?_
     refine ret_of (.bool false) (by kernel_rfl) ⟨_, ⟨congrArg Value.bool (some_inj hm), rfl⟩, hs24⟩
   ·
    refine W.sr fun K66 hK66 => ?_
    refine zE 1 (hK66 _ _ ?_)
    refine W.cond z_ (by kernel_rfl) (fun h67 => ?_) (fun h67 => ?_)
    ·
     have h67p : z_ = true := h67
     replace hm := ite_yes hm h67p
     refine W.region ?_
     refine zE 1 ?_
     exact ⟨(ByteArray.mk #[0]), slots_intro _ (by kernel_rfl), hs12, hm⟩
    ·
     have h67p : ¬ (z_ = true) := ne_true_of_eq_false h67
     replace hm := ite_no hm h67p
     refine W.skip ?_
     exact ⟨(ByteArray.mk #[47]), slots_intro _ (by kernel_rfl), hs12, hm⟩
  ·
   refine W.sr fun K68 hK68 => ?_
   refine zR 1 ?_
   obtain ⟨r69, h70, hm⟩ := bind_some hm
   refine zC00 hs (emay_walk (tx_ := tx_) (hm := h70) B _) fun w71 hs73 => ?_
   refine zE 1 (hK68 _ _ ?_)
   refine W.cond (!r69) (by kernel_rfl) (fun h74 => ?_) (fun h74 => ?_)
   rotate_left
   ·
    have h74p : r69 = true := (bnot_false h74)
    replace hm := ite_yes hm h74p
    refine W.skip ?_
    exact ⟨slots_intro _ (by kernel_rfl), hs73, hm⟩
   ·
    have h74p : ¬ (r69 = true) := ne_true_of_eq_false (bnot_true h74)
    replace hm := ite_no hm h74p
    refine W.seq fun K75 hK75 => ?_
    refine W.sr fun K76 hK76 => ?_
    refine zR 1 ?_
    obtain ⟨r77, h78, hm⟩ := bind_some hm
    refine zC00 hs73 (ebegin_walk (tx_ := tx_) (hm := h78) B _) fun w79 hs81 => ?_
    refine zE 1 (hK76 _ _ ?_)
    refine W.cond (!decide (r77 = 0)) (by kernel_rfl) (fun h82 => ?_) (fun h82 => ?_)
    rotate_left
    ·
     have h82p : r77 = 0 := of_decide_eq_true (bnot_false h82)
     replace hm := ite_yes hm h82p
     refine W.skip ?_
     refine hK75 _ _ ?_
     refine W.seq_join (fun s_ w_ => ∃ (p83 : Bool), (∃ us, s_ = slots 101 [(0, (.string tx_)), (7, (.bool p83))] us) ∧ St B w [] w_ [] ∧ entrynames_J3 tx_ p83 = some true) ?_ ?_
     ·
      rintro _ w84 ⟨p83, ⟨us, rfl⟩, hs85, hm⟩
      unfold entrynames_J3 at hm
      refine W.seq_join (fun s_ w_ => ∃ (p86 : Bool), (∃ us, s_ = slots 101 [(7, (.bool p86))] us) ∧ St B w [] w_ [] ∧ entrynames_J4 p86 = some true) ?_ ?_
      ·
       rintro _ w87 ⟨p86, ⟨us, rfl⟩, hs88, hm⟩
       unfold entrynames_J4 at hm
       refine W.sr fun K89 hK89 => ?_
       refine zR 2 ?_
       rcases Bool.eq_false_or_eq_true p86 with h90 | h90
       ·
        have h90p : p86 = true := h90
        replace hm := ite_yes hm h90p
        refine zS 57 h90 ?_
        refine zS 7 h90 ?_
        refine zS 56 h90 ?_
        obtain ⟨r91, h92, hm⟩ := bind_some hm
        refine zC00 hs88 (works15_walk (hG := hG) (hT := (hs88.oldCells hT)) (hm := h92) B _) fun w93 hs95 => ?_
        refine zE 2 (hK89 _ _ ?_)
        refine W.ret (ret_seq ?_)
        refine ret_of (.bool r91) (by kernel_rfl) ⟨_, ⟨congrArg Value.bool (some_inj hm), rfl⟩, hs95⟩
       ·
        have h90p : ¬ (p86 = true) := ne_true_of_eq_false h90
        replace hm := ite_no hm h90p
        refine zS 57 h90 ?_
        refine zS 7 h90 ?_
        refine zS 56 h90 ?_
        refine zE 3 (hK89 _ _ ?_)
        refine W.ret (ret_seq ?_)
        refine ret_of (.bool false) (by kernel_rfl) ⟨_, ⟨congrArg Value.bool (some_inj hm), rfl⟩, hs88⟩
      ·
       refine W.sr fun K96 hK96 => ?_
       refine zE 1 (hK96 _ _ ?_)
       refine W.block ?_
       refine W.loop_iter (G := Bool × Int) (σ := Bool × Int) (fun | (p97, p98) => (p97, p98)) (fun | (p97, p98), s_, w_ => (∃ us, s_ = slots 101 [(0, (.string tx_)), (7, (.bool p97)), (8, (.int .i64 p98))] us) ∧ St B w [] w_ []) (p83, 0) ⟨slots_intro _ (by kernel_rfl), hs85⟩ hm ?_
       rintro k99 ih100 ⟨p97, p98⟩ _ w101 ⟨⟨us, rfl⟩, hs102⟩ hm
       replace hm : entrynames_B0 tx_ k99 p97 p98 = some true := hm
       unfold entrynames_B0 at hm
       refine W.seq fun K103 hK103 => ?_
       refine W.sr fun K104 hK104 => ?_
       refine zE 4 (hK104 _ _ ?_)
       refine W.cond (decide (p98 < (tx_.size : Int))) (by kernel_rfl) (fun h105 => ?_) (fun h105 => ?_)
       ·
        obtain ⟨h105p, hm⟩ := iY hm h105
        refine W.skip ?_
        refine hK103 _ _ ?_
        refine W.seq fun K106 hK106 => ?_
        refine W.block ?_
        refine W.region ?_
        refine zR 2 ?_
        rcases Bool.eq_false_or_eq_true p97 with h107 | h107
        ·
         have h107p : p97 = true := h107
         replace hm := ite_yes hm h107p
         refine zS 44 h107 ?_
         refine zS 7 h107 ?_
         refine zS 43 h107 ?_
         refine zE 12 ?_
         refine normal_block ?_
         refine hK106 _ _ ?_
         refine W.region ?_
         refine zR 1 ?_
         obtain ⟨h108, hm⟩ := need_some hm
         refine zI _ (wrap_i64 h108.1 h108.2) ?_
         refine zE 1 ?_
         refine loopAt_next ?_
         exact ih100 (true, (p98 + 1)) _ _ ⟨slots_intro _ (by kernel_rfl), hs102⟩ hm
        ·
         have h107p : ¬ (p97 = true) := ne_true_of_eq_false h107
         replace hm := ite_no hm h107p
         refine zS 44 h107 ?_
         refine zS 7 h107 ?_
         refine zS 43 h107 ?_
         refine zR 2 ?_
         obtain ⟨h109, hm⟩ := need_some hm
         refine ops_R (v := (.int .u8 (sbyte tx_ p98))) (runs_strIdx (b := tx_) (k := p98) h109 (by kernel_rfl)) ?_
         refine zR 3 ?_
         rcases Bool.eq_false_or_eq_true (decide ((sbyte tx_ p98) = 0)) with h110 | h110
         ·
          obtain ⟨h110p, hm⟩ := iY hm h110
          refine zS 50 h110 ?_
          refine zS 48 h110 ?_
          refine zS 49 h110 ?_
          refine zE 6 ?_
          refine normal_block ?_
          refine hK106 _ _ ?_
          refine W.region ?_
          refine zR 1 ?_
          obtain ⟨h111, hm⟩ := need_some hm
          refine zI _ (wrap_i64 h111.1 h111.2) ?_
          refine zE 1 ?_
          refine loopAt_next ?_
          exact ih100 (true, (p98 + 1)) _ _ ⟨slots_intro _ (by kernel_rfl), hs102⟩ hm
         ·
          obtain ⟨h110p, hm⟩ := iN hm h110
          refine zS 50 h110 ?_
          refine zS 48 h110 ?_
          refine zS 49 h110 ?_
          refine zR 2 ?_
          obtain ⟨h112, hm⟩ := need_some hm
          refine ops_R (v := (.int .u8 (sbyte tx_ p98))) (runs_strIdx (b := tx_) (k := p98) h112 (by kernel_rfl)) ?_
          refine zE 3 ?_
          refine normal_block ?_
          refine hK106 _ _ ?_
          refine W.region ?_
          refine zR 1 ?_
          obtain ⟨h113, hm⟩ := need_some hm
          refine zI _ (wrap_i64 h113.1 h113.2) ?_
          refine zE 1 ?_
          refine loopAt_next ?_
          exact ih100 (decide ((sbyte tx_ p98) = 47), (p98 + 1)) _ _ ⟨slots_intro _ (by kernel_rfl), hs102⟩ hm
       ·
        obtain ⟨h105p, hm⟩ := iN hm h105
        refine W.exit (exit_seq (exit_seq (exit_here ?_)))
        exact ⟨p97, slots_intro _ (by kernel_rfl), hs102, hm⟩
     ·
      refine W.region ?_
      refine zR 4 ?_
      rcases Bool.eq_false_or_eq_true (decide ((tx_.size : Int) = 0)) with h114 | h114
      ·
       obtain ⟨h114p, hm⟩ := iY hm h114
       refine zS 24 h114 ?_
       refine zS 23 h114 ?_
       refine zE 13 ?_
       exact ⟨true, slots_intro _ (by kernel_rfl), hs81, hm⟩
      ·
       obtain ⟨h114p, hm⟩ := iN hm h114
       refine zS 24 h114 ?_
       refine zS 23 h114 ?_
       refine zR 5 ?_
       rcases Bool.eq_false_or_eq_true (decide ((tx_.size : Int) > 40)) with h115 | h115
       ·
        obtain ⟨h115p, hm⟩ := iY hm h115
        refine zS 29 h115 ?_
        refine zS 27 h115 ?_
        refine zS 28 h115 ?_
        refine zE 8 ?_
        exact ⟨true, slots_intro _ (by kernel_rfl), hs81, hm⟩
       ·
        obtain ⟨h115p, hm⟩ := iN hm h115
        refine zS 29 h115 ?_
        refine zS 27 h115 ?_
        refine zS 28 h115 ?_
        refine zR 4 ?_
        rcases Bool.eq_false_or_eq_true (tx_.toList == (ByteArray.mk #[46]).toList) with h116 | h116
        ·
         have h116p : (tx_.toList == (ByteArray.mk #[46]).toList) = true := h116
         replace hm := ite_yes hm h116p
         refine zS 33 h116 ?_
         refine zS 31 h116 ?_
         refine zS 32 h116 ?_
         refine zE 4 ?_
         exact ⟨true, slots_intro _ (by kernel_rfl), hs81, hm⟩
        ·
         have h116p : ¬ ((tx_.toList == (ByteArray.mk #[46]).toList) = true) := ne_true_of_eq_false h116
         replace hm := ite_no hm h116p
         refine zS 33 h116 ?_
         refine zS 31 h116 ?_
         refine zS 32 h116 ?_
         refine zE 4 ?_
         exact ⟨(tx_.toList == (ByteArray.mk #[46, 46]).toList), slots_intro _ (by kernel_rfl), hs81, hm⟩
    ·
     have h82p : ¬ (r77 = 0) := of_decide_eq_false (bnot_true h82)
     replace hm := ite_no hm h82p
     refine W.sr fun K117 hK117 => ?_
     refine zE 1 (hK117 _ _ ?_)
     refine W.ret (ret_seq (ret_seq ?_))
     refine ret_of (.bool false) (by kernel_rfl) ⟨_, ⟨congrArg Value.bool (some_inj hm), rfl⟩, hs81⟩

end Go.Proofs.YtmmclabkkigiaaaGreatDoor

namespace Go.Proofs.YtmmclabkkigiaaaGreatDoor
open Go Go.RowKit
set_option linter.unusedVariables false
set_option linter.unusedSimpArgs false
theorem nums_app (a b : ByteArray) : strNums (a ++ b) = strNums a ++ strNums b := by
  unfold strNums
  simp [ByteArray.data_append]
theorem bad_mid (a b c : ByteArray) (hb : badB b = true) : badB (a ++ b ++ c) = true := by
  obtain ⟨j, hj, hc⟩ := badB_iff.1 hb
  refine badB_iff.2 ⟨a.size + j, by simp only [ByteArray.size_append]; omega, ?_⟩
  have la := strNums_len a
  have lb := strNums_len b
  have e : (strNums (a ++ b ++ c)).getD (a.size + j) 0 = (strNums b).getD j 0 := by
    rw [nums_app, nums_app, List.getD_eq_getElem?_getD, List.getElem?_append_left (by rw [List.length_append]; omega), List.getElem?_append_right (by omega), la, Nat.add_sub_cancel_left, ← List.getD_eq_getElem?_getD]
  rw [e]
  exact hc
theorem sbyte_n (s : ByteArray) {k : Int} (h : 0 ≤ k ∧ k < (s.size : Int)) : sbyte s k = (strNums s).getD k.toNat 0 := by
  have hk : k.toNat < s.size := by omega
  unfold sbyte strNums
  rw [getElem?_pos s k.toNat hk, Option.getD_some]
  have hk2 : k.toNat < s.data.size := hk
  simp only [List.getD_eq_getElem?_getD, List.getElem?_map, Array.getElem?_toList]
  rw [Array.getElem?_eq_getElem hk2]
  rfl
theorem entrynames_law {tx_ : ByteArray} {at_ : Int} {z_ : Bool} (ha : 0 ≤ at_ ∧ at_ ≤ 255) : entrynames_M tx_ at_ z_ = some true := by
  refine Ok.true ?_
  unfold entrynames_M
  refine Ok.ite (fun _ => works15_stop) fun h500 => Ok.got15 (emay_eq tx_) (Ok.ite (fun hm => ?_) fun hm => ?_)
  · -- it may be
    have h1 := mayB_iff.1 hm
    have J2 : ∀ (r : Int) (c : ByteArray), (0 ≤ r ∧ r ≤ (tx_.size : Int)) → c.size = 1 → badB c = true → Ok (· = true) (entrynames_J2 tx_ r c) := by
      intro r c hr hcs hc
      have s1 := ByteArray.size_extract (a := tx_) (b := 0) (e := r.toNat)
      have s2 := ByteArray.size_extract (a := tx_) (b := r.toNat) (e := tx_.size)
      have hbad := bad_mid (tx_.extract 0 r.toNat) c (tx_.extract r.toNat tx_.size) hc
      unfold entrynames_J2
      refine Ok.yes (by omega) (Ok.yes (by omega) (Ok.need (by omega) (Ok.need (by omega) (Ok.need (by omega) (Ok.need (by simp only [ByteArray.size_append]; omega) (Ok.got15 (emay_eq _) (Ok.no ?_ ?_)))))))
      · intro q
        have := (mayB_iff.1 q).2.2.1
        rw [hbad] at this
        cases this
      · rcases ebegin_any tx_ with ⟨e1, _⟩ | ⟨_, ws, z, e1, e2, e3, e4⟩
        · rw [e1] at hm; cases hm
        · have et : z.tmod 12 = z % 12 := Int.tmod_eq_emod_of_nonneg e3.1
          refine Ok.got15 e4 (Ok.got15 e1 (Ok.got15 e2 ?_))
          rw [et]
          exact Ok.need (by omega) (Ok.yes rfl works15_stop)
    unfold entrynames_J1
    refine Ok.need (by omega) (Ok.need (by omega) (Ok.need (by omega) (Ok.name fun r hr => ?_)))
    have hmod : at_.tmod ((tx_.size : Int) + 1) = at_ % ((tx_.size : Int) + 1) := Int.tmod_eq_emod_of_nonneg (by omega)
    have hr0 := Int.emod_nonneg at_ (show (tx_.size : Int) + 1 ≠ 0 by omega)
    have hr1 := Int.emod_lt_of_pos at_ (show 0 < (tx_.size : Int) + 1 by omega)
    rw [hmod] at hr
    exact Ok.ite (fun _ => J2 r _ (by omega) rfl (by decide)) (fun _ => J2 r _ (by omega) rfl (by decide))
  · -- it may not
    have hm' : mayB tx_ = false := by simpa using hm
    rcases ebegin_any tx_ with ⟨_, e1⟩ | ⟨e1, _⟩
    rotate_left
    · rw [e1] at hm'; cases hm'
    refine Ok.got15 e1 (Ok.yes rfl ?_)
    have J3 : ∀ p : Bool, (p = false → (∀ j : Nat, j < tx_.size → (strNums tx_).getD j 0 ≠ 47 ∧ (strNums tx_).getD j 0 ≠ 0) → False) → Ok (· = true) (entrynames_J3 tx_ p) := by
      intro p hp
      unfold entrynames_J3
      refine Ok.iter (fun s : Bool × Int => (0 ≤ s.2 ∧ s.2 ≤ (tx_.size : Int)) ∧ (s.1 = false → p = false ∧ ∀ j : Nat, (j : Int) < s.2 → (strNums tx_).getD j 0 ≠ 47 ∧ (strNums tx_).getD j 0 ≠ 0)) (fun s => ((tx_.size : Int) - s.2).toNat) ?_ _ _ ⟨by simp, fun e => ⟨e, fun j hj => by simp only at hj; omega⟩⟩ (fuel_lt (by simp only; omega))
      rintro k ⟨q, i⟩ ⟨t1, t2⟩ ih
      simp only at t1 t2 ih
      show Ok (· = true) (entrynames_B0 tx_ k q i)
      unfold entrynames_B0
      refine Ok.ite (fun hi => ?_) (fun hi => ?_)
      · refine Ok.ite (fun hq => Ok.need (by omega) (ih _ ⟨by simp only; omega, fun e => by cases e⟩ (by simp only; omega))) (fun hq => Ok.need (by omega) ?_)
        obtain ⟨p0, hno⟩ := t2 (by simpa using hq)
        rw [sbyte_n tx_ (by omega)]
        refine Ok.ite (fun h0 => Ok.need (by omega) (ih _ ⟨by simp only; omega, fun e => by cases e⟩ (by simp only; omega))) (fun h0 => Ok.need (by omega) (Ok.need (by omega) (ih _ ⟨by simp only; omega, fun e => ⟨p0, fun j hj => ?_⟩⟩ (by simp only; omega))))
        simp only at hj e
        have h47 := of_decide_eq_false e
        by_cases ej : j = i.toNat
        · rw [ej]; exact ⟨h47, h0⟩
        · exact hno j (by omega)
      · unfold entrynames_J4
        cases q with
        | true => exact Ok.yes rfl works15_stop
        | false =>
          obtain ⟨p0, hno⟩ := t2 rfl
          exact absurd (hp p0 fun j hj => hno j (by omega)) id
    have Jt : Ok (· = true) (entrynames_J3 tx_ true) := J3 true fun e => by cases e
    refine Ok.ite (fun _ => Jt) fun h0 => Ok.ite (fun _ => Jt) fun h40 => Ok.ite (fun _ => Jt) fun h46 => J3 _ fun hp hno => ?_
    have hnb : badB tx_ = false := by
      cases hb : badB tx_ with
      | false => rfl
      | true =>
        obtain ⟨j, hj, hc⟩ := badB_iff.1 hb
        have := hno j hj
        omega
    have : mayB tx_ = true := mayB_iff.2 ⟨by omega, by omega, hnb, fun e => h46 (toList_iff.2 e), fun e => by rw [toList_iff.2 e] at hp; cases hp⟩
    rw [this] at hm'
    cases hm'
end Go.Proofs.YtmmclabkkigiaaaGreatDoor
