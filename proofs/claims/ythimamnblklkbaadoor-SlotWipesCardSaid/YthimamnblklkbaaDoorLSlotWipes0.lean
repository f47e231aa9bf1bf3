/- Texts, one behind the other: A4w, ALsWi, PLsWi. -/
import Derived.Test.YthimamnblklkbaaDoorQSN4
set_option linter.unusedVariables false
set_option linter.unusedSimpArgs false
set_option linter.unusedVariables false
set_option maxRecDepth 20000
set_option maxHeartbeats 2000000
namespace Go.Proofs.YthimamnblklkbaaDoor
open Go Go.RowKit
set_option linter.unusedSimpArgs false
set_option linter.unusedVariables false

def rareaat_M (gw : Int) (gi : Int) (gb : Int) (w_ : Int) : Option (Int) :=
 if May gw gi gb then (if w_ < 0 then (some (-1)) else (if w_ ≥ gw then (some (-1)) else (need (-9223372036854775808 ≤ (208 * w_) ∧ (208 * w_) ≤ 9223372036854775807) <|
need (-9223372036854775808 ≤ (264 + (208 * w_)) ∧ (264 + (208 * w_)) ≤ 9223372036854775807) <|
some (264 + (208 * w_))))) else (some (-1))

theorem rareaat_walk {gw : Int} {gi : Int} {gb : Int} {w_ : Int}  {r : Int} (B : Nat) (w : World) (hm : rareaat_M gw gi gb w_ = some r) : Spec Tryd.prog 117 #[(.agg #[(.int .i64 gw), (.int .i64 gi), (.int .i64 gb)]), (.int .i64 w_)] B w [] (fun v H' => v = .int .i64 r ∧ H' = []) := by
 refine spec_Q Tryd.func117 rfl fun hs => ?_
 unfold rareaat_M at hm
 refine W.sr fun K1 hK1 => ?_
 refine zN [(.int .i64 gw), (.int .i64 gi), (.int .i64 gb)] 88 hs fun b4 w2 hs3 => ?_
 refine zE 1 (hK1 _ _ ?_)
 refine W.seq fun K5 hK5 => ?_
 refine W.sr fun K6 hK6 => ?_
 refine ops_R (runs_loadAgg (ad := ⟨b4, 0, none⟩) (cs := [(.int .i64 gw), (.int .i64 gi), (.int .i64 gb)]) (by kernel_rfl) (cells_sub (hs3.heapAt 0 rfl) rfl)) ?_
 refine zC00 hs3 (rmay_spec (gw := gw) (gi := gi) (gb := gb) B _) fun w7 hs9 => ?_
 refine zR 2 ?_
 rcases Bool.eq_false_or_eq_true (!(decide (May gw gi gb))) with h10 | h10
 rotate_left
 ·
  have h10p : May gw gi gb := of_decide_eq_true (bnot_false h10)
  replace hm := ite_yes hm h10p
  refine zS 8 h10 ?_
  refine zS 7 h10 ?_
  refine zR 4 ?_
  rcases Bool.eq_false_or_eq_true (decide (w_ < 0)) with h11 | h11
  ·
   obtain ⟨h11p, hm⟩ := iY hm h11
   refine zS 12 h11 ?_
   refine zS 10 h11 ?_
   refine zS 11 h11 ?_
   refine zE 5 (hK6 _ _ ?_)
   refine W.cond_true true (by kernel_rfl) rfl ?_
   refine W.sr fun K12 hK12 => ?_
   refine zE 1 (hK12 _ _ ?_)
   refine W.ret (ret_seq ?_)
   obtain rfl := some_inj hm
   have hs13 := St.tk0 hs9
   refine ret_of (.int .i64 (-1)) (by kernel_rfl) ⟨_, ⟨rfl, rfl⟩, hs13⟩
  ·
   obtain ⟨h11p, hm⟩ := iN hm h11
   refine zS 12 h11 ?_
   refine zS 10 h11 ?_
   refine zS 11 h11 ?_
   refine zR 2 ?_
   refine zL ⟨b4, 0, none⟩ (.int .i64 gw) (hs9.cellAt 0 rfl rfl) ?_
   refine zE 2 (hK6 _ _ ?_)
   refine W.cond (decide (w_ ≥ gw)) (by kernel_rfl) (fun h14 => ?_) (fun h14 => ?_)
   ·
    obtain ⟨h14p, hm⟩ := iY hm h14
    refine W.sr fun K15 hK15 => ?_
    refine zE 1 (hK15 _ _ ?_)
    refine W.ret (ret_seq ?_)
    obtain rfl := some_inj hm
    have hs16 := St.tk0 hs9
    refine ret_of (.int .i64 (-1)) (by kernel_rfl) ⟨_, ⟨rfl, rfl⟩, hs16⟩
   ·
    obtain ⟨h14p, hm⟩ := iN hm h14
    refine W.skip ?_
    refine hK5 _ _ ?_
    refine W.sr fun K17 hK17 => ?_
    refine zC00 hs9 (areas_spec B _) fun w18 hs20 => ?_
    refine zR 1 ?_
    obtain ⟨h21, hm⟩ := need_some hm
    refine zI _ (wrap_i64 h21.1 h21.2) ?_
    obtain ⟨h22, hm⟩ := need_some hm
    refine zI _ (wrap_i64 h22.1 h22.2) ?_
    refine zE 1 (hK17 _ _ ?_)
    refine W.ret ?_
    obtain rfl := some_inj hm
    have hs23 := St.tk0 hs20
    refine ret_of (.int .i64 (264 + (208 * w_))) (by kernel_rfl) ⟨_, ⟨rfl, rfl⟩, hs23⟩
 ·
  have h10p : ¬ (May gw gi gb) := of_decide_eq_false (bnot_true h10)
  replace hm := ite_no hm h10p
  refine zS 8 h10 ?_
  refine zS 7 h10 ?_
  refine zE 9 (hK6 _ _ ?_)
  refine W.cond_true true (by kernel_rfl) rfl ?_
  refine W.sr fun K24 hK24 => ?_
  refine zE 1 (hK24 _ _ ?_)
  refine W.ret (ret_seq ?_)
  obtain rfl := some_inj hm
  have hs25 := St.tk0 hs9
  refine ret_of (.int .i64 (-1)) (by kernel_rfl) ⟨_, ⟨rfl, rfl⟩, hs25⟩

def rwhere_J3 (gw : Int) (gi : Int) (gb : Int) (at_ : Int) : Option (Int × Int × Int × Int) :=
 need (-9223372036854775808 ≤ (at_ - (placeOf 6 gw gi gb 0)) ∧ (at_ - (placeOf 6 gw gi gb 0)) ≤ 9223372036854775807) <|
(some (at_ - (placeOf 6 gw gi gb 0))).bind fun r26 =>
if r26 < 8 then (some (6, 0, 0, r26)) else (if r26 < 16 then (need (-9223372036854775808 ≤ (r26 - 8) ∧ (r26 - 8) ≤ 9223372036854775807) <|
some (7, 0, 0, (r26 - 8))) else ((some (placeOf 8 gw gi gb 0)).bind fun r40 =>
need (-9223372036854775808 ≤ (at_ - r40) ∧ (at_ - r40) ≤ 9223372036854775807) <|
need (-9223372036854775808 ≤ (16 * gi) ∧ (16 * gi) ≤ 9223372036854775807) <|
if (at_ - r40) < (16 * gi) then (need (-9223372036854775808 ≤ ((at_ - r40).tdiv 16) ∧ ((at_ - r40).tdiv 16) ≤ 9223372036854775807) <|
some (8, ((at_ - r40).tdiv 16), 0, (at_ - r40).tmod 16)) else (need (-9223372036854775808 ≤ (at_ - (placeOf 9 gw gi gb 0)) ∧ (at_ - (placeOf 9 gw gi gb 0)) ≤ 9223372036854775807) <|
(some (at_ - (placeOf 9 gw gi gb 0))).bind fun r60 =>
need (-9223372036854775808 ≤ (r60.tdiv 8) ∧ (r60.tdiv 8) ≤ 9223372036854775807) <|
some (9, (r60.tdiv 8), 0, r60.tmod 8))))

def rwhere_J5 (at_ : Int) (k67 : Int → Option (Int × Int × Int × Int)) (p66 : Int) (r76 : Int) (p82 : Bool) : Option (Int × Int × Int × Int) :=
 if p82 = true then (some (5, p66, 0, (at_ - r76))) else (need (-9223372036854775808 ≤ (p66 + 1) ∧ (p66 + 1) ≤ 9223372036854775807) <|
k67 (p66 + 1))

def rwhere_B3 (gw : Int) (gi : Int) (gb : Int) (at_ : Int) (k67 : Int → Option (Int × Int × Int × Int)) (p66 : Int) : Option (Int × Int × Int × Int) :=
 if p66 < gw then ((rareaat_M gw gi gb p66).bind fun r76 =>
need (-9223372036854775808 ≤ (at_ - r76) ∧ (at_ - r76) ≤ 9223372036854775807) <|
if (at_ - r76) ≥ 0 then (rwhere_J5 at_ k67 p66 r76 (decide ((at_ - r76) < 208))) else (rwhere_J5 at_ k67 p66 r76 false)) else (rwhere_J3 gw gi gb at_)

def rwhere_J2 (gw : Int) (gi : Int) (gb : Int) (at_ : Int) : Option (Int × Int × Int × Int) :=
 iter (fun k_ s_ => rwhere_B3 gw gi gb at_ k_ s_) FUEL 0

def rwhere_J9 (at_ : Int) (k92 : Int → Option (Int × Int × Int × Int)) (p91 : Int) (p109 : Bool) : Option (Int × Int × Int × Int) :=
 if p109 = true then (some (2, p91, 0, (at_ - (sessAt p91)))) else (need (-9223372036854775808 ≤ (p91 + 1) ∧ (p91 + 1) ≤ 9223372036854775807) <|
k92 (p91 + 1))

def rwhere_J8 (at_ : Int) (k92 : Int → Option (Int × Int × Int × Int)) (p91 : Int) : Option (Int × Int × Int × Int) :=
 need (-9223372036854775808 ≤ (at_ - (sessAt p91)) ∧ (at_ - (sessAt p91)) ≤ 9223372036854775807) <|
if (at_ - (sessAt p91)) ≥ 0 then (rwhere_J9 at_ k92 p91 (decide ((at_ - (sessAt p91)) < 64))) else (rwhere_J9 at_ k92 p91 false)

def rwhere_J11 (p91 : Int) (k119 : Int → Option (Int × Int × Int × Int)) (p118 : Int) (r132 : Int) (p134 : Bool) : Option (Int × Int × Int × Int) :=
 if p134 = true then (some (4, p91, p118, r132)) else (need (-9223372036854775808 ≤ (p118 + 1) ∧ (p118 + 1) ≤ 9223372036854775807) <|
k119 (p118 + 1))

def rwhere_B2 (at_ : Int) (k92 : Int → Option (Int × Int × Int × Int)) (p91 : Int) (k119 : Int → Option (Int × Int × Int × Int)) (p118 : Int) : Option (Int × Int × Int × Int) :=
 if p118 < 4 then (need (-9223372036854775808 ≤ (at_ - (descAt p91 p118)) ∧ (at_ - (descAt p91 p118)) ≤ 9223372036854775807) <|
(some (at_ - (descAt p91 p118))).bind fun r132 =>
if r132 ≥ 0 then (rwhere_J11 p91 k119 p118 r132 (decide (r132 < 2))) else (rwhere_J11 p91 k119 p118 r132 false)) else (rwhere_J8 at_ k92 p91)

def rwhere_J7 (at_ : Int) (k92 : Int → Option (Int × Int × Int × Int)) (p91 : Int) : Option (Int × Int × Int × Int) :=
 iter (fun k_ s_ => rwhere_B2 at_ k92 p91 k_ s_) FUEL 0

def rwhere_J13 (p91 : Int) (k144 : Int → Option (Int × Int × Int × Int)) (p143 : Int) (r157 : Int) (p159 : Bool) : Option (Int × Int × Int × Int) :=
 if p159 = true then (some (3, p91, p143, r157)) else (need (-9223372036854775808 ≤ (p143 + 1) ∧ (p143 + 1) ≤ 9223372036854775807) <|
k144 (p143 + 1))

def rwhere_B1 (at_ : Int) (k92 : Int → Option (Int × Int × Int × Int)) (p91 : Int) (k144 : Int → Option (Int × Int × Int × Int)) (p143 : Int) : Option (Int × Int × Int × Int) :=
 if p143 < 4 then (need (-9223372036854775808 ≤ (at_ - (slotAt p91 p143)) ∧ (at_ - (slotAt p91 p143)) ≤ 9223372036854775807) <|
(some (at_ - (slotAt p91 p143))).bind fun r157 =>
if r157 ≥ 0 then (rwhere_J13 p91 k144 p143 r157 (decide (r157 < 12))) else (rwhere_J13 p91 k144 p143 r157 false)) else (rwhere_J7 at_ k92 p91)

def rwhere_B0 (gw : Int) (gi : Int) (gb : Int) (at_ : Int) (k92 : Int → Option (Int × Int × Int × Int)) (p91 : Int) : Option (Int × Int × Int × Int) :=
 if p91 < 4 then (iter (fun k_ s_ => rwhere_B1 at_ k92 p91 k_ s_) FUEL 0) else (rwhere_J2 gw gi gb at_)

def rwhere_J1 (gw : Int) (gi : Int) (gb : Int) (at_ : Int) (p6 : Bool) : Option (Int × Int × Int × Int) :=
 if p6 = true then (some (0, 0, 0, 0)) else (if at_ < 8 then (some (1, 0, 0, at_)) else (iter (fun k_ s_ => rwhere_B0 gw gi gb at_ k_ s_) FUEL 0))

def rwhere_M (gw : Int) (gi : Int) (gb : Int) (at_ : Int) : Option (Int × Int × Int × Int) :=
 if May gw gi gb then (if at_ < 0 then (rwhere_J1 gw gi gb at_ true) else ((some (wordsOf gw gi gb)).bind fun r172 =>
rwhere_J1 gw gi gb at_ (decide (at_ ≥ r172)))) else (rwhere_J1 gw gi gb at_ true)

theorem rwhere_walk {gw : Int} {gi : Int} {gb : Int} {at_ : Int}  {r : Int × Int × Int × Int} (B : Nat) (w : World) (hm : rwhere_M gw gi gb at_ = some r) : Spec Tryd.prog 53 #[(.agg #[(.int .i64 gw), (.int .i64 gi), (.int .i64 gb)]), (.int .i64 at_)] B w [] (fun v H' => v = (.tuple #[(.int .i64 r.1), (.int .i64 r.2.1), (.int .i64 r.2.2.1), (.int .i64 r.2.2.2)]) ∧ H' = []) := by
 refine spec_Q Tryd.func53 rfl fun hs => ?_
 unfold rwhere_M at hm
 refine W.sr fun K1 hK1 => ?_
 refine zN [(.int .i64 gw), (.int .i64 gi), (.int .i64 gb)] 88 hs fun b4 w2 hs3 => ?_
 refine zE 4 (hK1 _ _ ?_)
 refine W.seq fun K5 hK5 => ?_
 refine W.seq_join (fun s_ w_ => ∃ (p6 : Bool), (∃ us, s_ = slots 136 [(1, (.int .i64 at_)), (2, (.pointer (some ⟨b4, 0, none⟩))), (29, (.bool p6))] us) ∧ St B w [] w_ [blk b4 (.cells [(.int .i64 gw), (.int .i64 gi), (.int .i64 gb)].toArray 88 (0, 0))] ∧ rwhere_J1 gw gi gb at_ p6 = some r) ?_ ?_
 ·
  rintro _ w7 ⟨p6, ⟨us, rfl⟩, hs8, hm⟩
  unfold rwhere_J1 at hm
  refine W.cond p6 (by kernel_rfl) (fun h9 => ?_) (fun h9 => ?_)
  ·
   have h9p : p6 = true := h9
   replace hm := ite_yes hm h9p
   refine W.sr fun K10 hK10 => ?_
   refine zE 4 (hK10 _ _ ?_)
   refine W.ret (ret_seq ?_)
   obtain rfl := some_inj hm
   have hs11 := St.tk0 hs8
   refine ret_of (.tuple #[(.int .i64 0), (.int .i64 0), (.int .i64 0), (.int .i64 0)]) (by kernel_rfl) ⟨_, ⟨rfl, rfl⟩, hs11⟩
  ·
   have h9p : ¬ (p6 = true) := ne_true_of_eq_false h9
   replace hm := ite_no hm h9p
   refine W.skip ?_
   refine hK5 _ _ ?_
   refine W.seq fun K12 hK12 => ?_
   refine W.sr fun K13 hK13 => ?_
   refine zE 2 (hK13 _ _ ?_)
   refine W.cond (decide (at_ < 8)) (by kernel_rfl) (fun h14 => ?_) (fun h14 => ?_)
   ·
    obtain ⟨h14p, hm⟩ := iY hm h14
    refine W.sr fun K15 hK15 => ?_
    refine zE 5 (hK15 _ _ ?_)
    refine W.ret (ret_seq ?_)
    obtain rfl := some_inj hm
    have hs16 := St.tk0 hs8
    refine ret_of (.tuple #[(.int .i64 1), (.int .i64 0), (.int .i64 0), (.int .i64 at_)]) (by kernel_rfl) ⟨_, ⟨rfl, rfl⟩, hs16⟩
   ·
    obtain ⟨h14p, hm⟩ := iN hm h14
    refine W.skip ?_
    refine hK12 _ _ ?_
    refine W.seq_join (fun s_ w_ => (∃ us, s_ = slots 136 [(1, (.int .i64 at_)), (2, (.pointer (some ⟨b4, 0, none⟩)))] us) ∧ St B w [] w_ [blk b4 (.cells [(.int .i64 gw), (.int .i64 gi), (.int .i64 gb)].toArray 88 (0, 0))] ∧ rwhere_J2 gw gi gb at_ = some r) ?_ ?_
    ·
     rintro _ w17 ⟨⟨us, rfl⟩, hs18, hm⟩
     unfold rwhere_J2 at hm
     refine W.seq_join (fun s_ w_ => (∃ us, s_ = slots 136 [(1, (.int .i64 at_)), (2, (.pointer (some ⟨b4, 0, none⟩)))] us) ∧ St B w [] w_ [blk b4 (.cells [(.int .i64 gw), (.int .i64 gi), (.int .i64 gb)].toArray 88 (0, 0))] ∧ rwhere_J3 gw gi gb at_ = some r) ?_ ?_
     ·
      rintro _ w19 ⟨⟨us, rfl⟩, hs20, hm⟩
      unfold rwhere_J3 at hm
      refine W.sr fun K21 hK21 => ?_
      refine zR 1 ?_
      refine ops_R (runs_loadAgg (ad := ⟨b4, 0, none⟩) (cs := [(.int .i64 gw), (.int .i64 gi), (.int .i64 gb)]) (by kernel_rfl) (cells_sub (hs20.heapAt 0 rfl) rfl)) ?_
      refine zC00 hs20 (rmapat_spec (gw := gw) (gi := gi) (gb := gb) B _) fun w22 hs24 => ?_
      obtain ⟨h25, hm⟩ := need_some hm
      refine zI _ (wrap_i64 h25.1 h25.2) ?_
      refine zR 1 ?_
      obtain ⟨r26, h27, hm⟩ := bind_some hm
      replace h27 := some_inj h27
      refine ops_set 16 (v := .int .i64 r26) (Eq.trans (by kernel_rfl) (congrArg (Value.int .i64) h27)) ?_
      refine zD (hK21 _ _ ?_)
      refine W.seq fun K28 hK28 => ?_
      refine W.sr fun K29 hK29 => ?_
      refine zE 2 (hK29 _ _ ?_)
      refine W.cond (decide (r26 < 8)) (by kernel_rfl) (fun h30 => ?_) (fun h30 => ?_)
      ·
       obtain ⟨h30p, hm⟩ := iY hm h30
       refine W.sr fun K31 hK31 => ?_
       refine zE 5 (hK31 _ _ ?_)
       refine W.ret (ret_seq ?_)
       obtain rfl := some_inj hm
       have hs32 := St.tk0 hs24
       refine ret_of (.tuple #[(.int .i64 6), (.int .i64 0), (.int .i64 0), (.int .i64 r26)]) (by kernel_rfl) ⟨_, ⟨rfl, rfl⟩, hs32⟩
      ·
       obtain ⟨h30p, hm⟩ := iN hm h30
       refine W.skip ?_
       refine hK28 _ _ ?_
       refine W.seq fun K33 hK33 => ?_
       refine W.sr fun K34 hK34 => ?_
       refine zE 2 (hK34 _ _ ?_)
       refine W.cond (decide (r26 < 16)) (by kernel_rfl) (fun h35 => ?_) (fun h35 => ?_)
       ·
        obtain ⟨h35p, hm⟩ := iY hm h35
        refine W.sr fun K36 hK36 => ?_
        refine zR 1 ?_
        obtain ⟨h37, hm⟩ := need_some hm
        refine zI _ (wrap_i64 h37.1 h37.2) ?_
        refine zE 4 (hK36 _ _ ?_)
        refine W.ret (ret_seq ?_)
        obtain rfl := some_inj hm
        have hs38 := St.tk0 hs24
        refine ret_of (.tuple #[(.int .i64 7), (.int .i64 0), (.int .i64 0), (.int .i64 (r26 - 8))]) (by kernel_rfl) ⟨_, ⟨rfl, rfl⟩, hs38⟩
       ·
        obtain ⟨h35p, hm⟩ := iN hm h35
        refine W.skip ?_
        refine hK33 _ _ ?_
        refine W.sr fun K39 hK39 => ?_
        refine zR 1 ?_
        refine ops_R (runs_loadAgg (ad := ⟨b4, 0, none⟩) (cs := [(.int .i64 gw), (.int .i64 gi), (.int .i64 gb)]) (by kernel_rfl) (cells_sub (hs24.heapAt 0 rfl) rfl)) ?_
        obtain ⟨r40, h41, hm⟩ := bind_some hm
        replace h41 := some_inj h41
        refine ops_call0 hs24 (by kernel_rfl) (rinodeat_spec (gw := gw) (gi := gi) (gb := gb) (n_ := 0) B _) ?_
        rintro _ _ w42 ⟨hv44, hH45⟩ hs43
        rw [h41] at hv44
        try rw [h41] at hH45
        subst hv44 hH45
        have hs46 := St.ap0 hs43
        obtain ⟨h47, hm⟩ := need_some hm
        refine zI _ (wrap_i64 h47.1 h47.2) ?_
        refine zE 1 (hK39 _ _ ?_)
        refine W.seq fun K48 hK48 => ?_
        refine W.sr fun K49 hK49 => ?_
        refine zR 2 ?_
        refine zL ⟨b4, 1, none⟩ (.int .i64 gi) (hs46.cellAt 0 rfl rfl) ?_
        obtain ⟨h50, hm⟩ := need_some hm
        refine zI _ (wrap_i64 h50.1 h50.2) ?_
        refine zE 1 (hK49 _ _ ?_)
        refine W.cond (decide ((at_ - r40) < (16 * gi))) (by kernel_rfl) (fun h51 => ?_) (fun h51 => ?_)
        ·
         obtain ⟨h51p, hm⟩ := iY hm h51
         refine W.sr fun K52 hK52 => ?_
         refine zR 1 ?_
         obtain ⟨h53, hm⟩ := need_some hm
         refine ops_R (v := .int .i64 ((at_ - r40).tdiv 16)) (runs_quo (k := .i64) (a := (at_ - r40)) (b := 16) (by kernel_rfl) (by decide) (wrap_i64 h53.1 h53.2)) ?_
         refine zE 6 (hK52 _ _ ?_)
         refine W.ret (ret_seq ?_)
         obtain rfl := some_inj hm
         have hs54 := St.tk0 hs46
         refine ret_of (.tuple #[(.int .i64 8), (.int .i64 ((at_ - r40).tdiv 16)), (.int .i64 0), (.int .i64 ((at_ - r40).tmod 16))]) (by kernel_rfl) ⟨_, ⟨rfl, rfl⟩, hs54⟩
        ·
         obtain ⟨h51p, hm⟩ := iN hm h51
         refine W.skip ?_
         refine hK48 _ _ ?_
         refine W.sr fun K55 hK55 => ?_
         refine zR 1 ?_
         refine ops_R (runs_loadAgg (ad := ⟨b4, 0, none⟩) (cs := [(.int .i64 gw), (.int .i64 gi), (.int .i64 gb)]) (by kernel_rfl) (cells_sub (hs46.heapAt 0 rfl) rfl)) ?_
         refine zC00 hs46 (rblockat_spec (gw := gw) (gi := gi) (gb := gb) (n_ := 0) B _) fun w56 hs58 => ?_
         obtain ⟨h59, hm⟩ := need_some hm
         refine zI _ (wrap_i64 h59.1 h59.2) ?_
         refine zR 1 ?_
         obtain ⟨r60, h61, hm⟩ := bind_some hm
         replace h61 := some_inj h61
         refine ops_set 16 (v := .int .i64 r60) (Eq.trans (by kernel_rfl) (congrArg (Value.int .i64) h61)) ?_
         refine zD (hK55 _ _ ?_)
         refine W.sr fun K62 hK62 => ?_
         refine zR 1 ?_
         obtain ⟨h63, hm⟩ := need_some hm
         refine ops_R (v := .int .i64 (r60.tdiv 8)) (runs_quo (k := .i64) (a := r60) (b := 8) (by kernel_rfl) (by decide) (wrap_i64 h63.1 h63.2)) ?_
         refine zE 6 (hK62 _ _ ?_)
         refine W.ret ?_
         obtain rfl := some_inj hm
         have hs64 := St.tk0 hs58
         refine ret_of (.tuple #[(.int .i64 9), (.int .i64 (r60.tdiv 8)), (.int .i64 0), (.int .i64 (r60.tmod 8))]) (by kernel_rfl) ⟨_, ⟨rfl, rfl⟩, hs64⟩
     ·
      refine W.sr fun K65 hK65 => ?_
      refine zE 1 (hK65 _ _ ?_)
      refine W.block ?_
      refine W.loop_iter (G := Int) (σ := Int) (fun | p66 => p66) (fun | p66, s_, w_ => (∃ us, s_ = slots 136 [(1, (.int .i64 at_)), (2, (.pointer (some ⟨b4, 0, none⟩))), (14, (.int .i64 p66))] us) ∧ St B w [] w_ [blk b4 (.cells [(.int .i64 gw), (.int .i64 gi), (.int .i64 gb)].toArray 88 (0, 0))]) 0 ⟨slots_intro _ (by kernel_rfl), hs18⟩ hm ?_
      rintro k67 ih68 p66 _ w69 ⟨⟨us, rfl⟩, hs70⟩ hm
      replace hm : rwhere_B3 gw gi gb at_ k67 p66 = some r := hm
      unfold rwhere_B3 at hm
      refine W.seq fun K71 hK71 => ?_
      refine W.sr fun K72 hK72 => ?_
      refine zR 2 ?_
      refine zL ⟨b4, 0, none⟩ (.int .i64 gw) (hs70.cellAt 0 rfl rfl) ?_
      refine zE 1 (hK72 _ _ ?_)
      refine W.cond (decide (p66 < gw)) (by kernel_rfl) (fun h73 => ?_) (fun h73 => ?_)
      ·
       obtain ⟨h73p, hm⟩ := iY hm h73
       refine W.skip ?_
       refine hK71 _ _ ?_
       refine W.seq fun K74 hK74 => ?_
       refine W.block ?_
       refine W.sr fun K75 hK75 => ?_
       refine zR 1 ?_
       refine ops_R (runs_loadAgg (ad := ⟨b4, 0, none⟩) (cs := [(.int .i64 gw), (.int .i64 gi), (.int .i64 gb)]) (by kernel_rfl) (cells_sub (hs70.heapAt 0 rfl) rfl)) ?_
       refine zR 1 ?_
       obtain ⟨r76, h77, hm⟩ := bind_some hm
       refine zC00 hs70 (rareaat_walk (gw := gw) (gi := gi) (gb := gb) (w_ := p66) (hm := h77) B _) fun w78 hs80 => ?_
       obtain ⟨h81, hm⟩ := need_some hm
       refine zI _ (wrap_i64 h81.1 h81.2) ?_
       refine zE 1 (hK75 _ _ ?_)
       refine W.seq_join (fun s_ w_ => ∃ (p82 : Bool), (∃ us, s_ = slots 136 [(1, (.int .i64 at_)), (2, (.pointer (some ⟨b4, 0, none⟩))), (14, (.int .i64 p66)), (15, (.int .i64 (at_ - r76))), (101, (.bool p82))] us) ∧ St B w [] w_ [blk b4 (.cells [(.int .i64 gw), (.int .i64 gi), (.int .i64 gb)].toArray 88 (0, 0))] ∧ rwhere_J5 at_ k67 p66 r76 p82 = some r) ?_ ?_
       ·
        rintro _ w83 ⟨p82, ⟨us, rfl⟩, hs84, hm⟩
        unfold rwhere_J5 at hm
        refine W.cond p82 (by kernel_rfl) (fun h85 => ?_) (fun h85 => ?_)
        ·
         have h85p : p82 = true := h85
         replace hm := ite_yes hm h85p
         refine W.sr fun K86 hK86 => ?_
         refine zE 6 (hK86 _ _ ?_)
         refine W.ret (ret_block (ret_seq (ret_seq (ret_block (ret_seq ?_)))))
         obtain rfl := some_inj hm
         have hs87 := St.tk0 hs84
         refine ret_of (.tuple #[(.int .i64 5), (.int .i64 p66), (.int .i64 0), (.int .i64 (at_ - r76))]) (by kernel_rfl) ⟨_, ⟨rfl, rfl⟩, hs87⟩
        ·
         have h85p : ¬ (p82 = true) := ne_true_of_eq_false h85
         replace hm := ite_no hm h85p
         refine W.skip ?_
         refine normal_block ?_
         refine hK74 _ _ ?_
         refine W.region ?_
         refine zR 1 ?_
         obtain ⟨h88, hm⟩ := need_some hm
         refine zI _ (wrap_i64 h88.1 h88.2) ?_
         refine zE 1 ?_
         refine loopAt_next ?_
         exact ih68 (p66 + 1) _ _ ⟨slots_intro _ (by kernel_rfl), hs84⟩ hm
       ·
        refine W.region ?_
        refine zR 3 ?_
        rcases Bool.eq_false_or_eq_true (decide ((at_ - r76) ≥ 0)) with h89 | h89
        ·
         obtain ⟨h89p, hm⟩ := iY hm h89
         refine zS 98 h89 ?_
         refine zS 97 h89 ?_
         refine zE 3 ?_
         exact ⟨(decide ((at_ - r76) < 208)), slots_intro _ (by kernel_rfl), hs80, hm⟩
        ·
         obtain ⟨h89p, hm⟩ := iN hm h89
         refine zS 98 h89 ?_
         refine zS 97 h89 ?_
         refine zE 3 ?_
         exact ⟨false, slots_intro _ (by kernel_rfl), hs80, hm⟩
      ·
       obtain ⟨h73p, hm⟩ := iN hm h73
       refine W.exit (exit_seq (exit_seq (exit_here ?_)))
       exact ⟨slots_intro _ (by kernel_rfl), hs70, hm⟩
    ·
     refine W.sr fun K90 hK90 => ?_
     refine zE 1 (hK90 _ _ ?_)
     refine W.block ?_
     refine W.loop_iter (G := Int) (σ := Int) (fun | p91 => p91) (fun | p91, s_, w_ => (∃ us, s_ = slots 136 [(1, (.int .i64 at_)), (2, (.pointer (some ⟨b4, 0, none⟩))), (8, (.int .i64 p91))] us) ∧ St B w [] w_ [blk b4 (.cells [(.int .i64 gw), (.int .i64 gi), (.int .i64 gb)].toArray 88 (0, 0))]) 0 ⟨slots_intro _ (by kernel_rfl), hs8⟩ hm ?_
     rintro k92 ih93 p91 _ w94 ⟨⟨us, rfl⟩, hs95⟩ hm
     replace hm : rwhere_B0 gw gi gb at_ k92 p91 = some r := hm
     unfold rwhere_B0 at hm
     refine W.seq fun K96 hK96 => ?_
     refine W.sr fun K97 hK97 => ?_
     refine zE 2 (hK97 _ _ ?_)
     refine W.cond (decide (p91 < 4)) (by kernel_rfl) (fun h98 => ?_) (fun h98 => ?_)
     ·
      obtain ⟨h98p, hm⟩ := iY hm h98
      refine W.skip ?_
      refine hK96 _ _ ?_
      refine W.seq fun K99 hK99 => ?_
      refine W.block ?_
      refine W.seq_join (fun s_ w_ => (∃ us, s_ = slots 136 [(1, (.int .i64 at_)), (2, (.pointer (some ⟨b4, 0, none⟩))), (8, (.int .i64 p91))] us) ∧ St B w [] w_ [blk b4 (.cells [(.int .i64 gw), (.int .i64 gi), (.int .i64 gb)].toArray 88 (0, 0))] ∧ rwhere_J7 at_ k92 p91 = some r) ?_ ?_
      ·
       rintro _ w100 ⟨⟨us, rfl⟩, hs101, hm⟩
       unfold rwhere_J7 at hm
       refine W.seq_join (fun s_ w_ => (∃ us, s_ = slots 136 [(1, (.int .i64 at_)), (2, (.pointer (some ⟨b4, 0, none⟩))), (8, (.int .i64 p91))] us) ∧ St B w [] w_ [blk b4 (.cells [(.int .i64 gw), (.int .i64 gi), (.int .i64 gb)].toArray 88 (0, 0))] ∧ rwhere_J8 at_ k92 p91 = some r) ?_ ?_
       ·
        rintro _ w102 ⟨⟨us, rfl⟩, hs103, hm⟩
        unfold rwhere_J8 at hm
        refine W.sr fun K104 hK104 => ?_
        refine zR 2 ?_
        refine zC00 hs103 (rsess_spec (i_ := p91) B _) fun w105 hs107 => ?_
        obtain ⟨h108, hm⟩ := need_some hm
        refine zI _ (wrap_i64 h108.1 h108.2) ?_
        refine zE 1 (hK104 _ _ ?_)
        refine W.seq_join (fun s_ w_ => ∃ (p109 : Bool), (∃ us, s_ = slots 136 [(1, (.int .i64 at_)), (2, (.pointer (some ⟨b4, 0, none⟩))), (8, (.int .i64 p91)), (13, (.int .i64 (at_ - (sessAt p91)))), (82, (.bool p109))] us) ∧ St B w [] w_ [blk b4 (.cells [(.int .i64 gw), (.int .i64 gi), (.int .i64 gb)].toArray 88 (0, 0))] ∧ rwhere_J9 at_ k92 p91 p109 = some r) ?_ ?_
        ·
         rintro _ w110 ⟨p109, ⟨us, rfl⟩, hs111, hm⟩
         unfold rwhere_J9 at hm
         refine W.cond p109 (by kernel_rfl) (fun h112 => ?_) (fun h112 => ?_)
         ·
          have h112p : p109 = true := h112
          replace hm := ite_yes hm h112p
          refine W.sr fun K113 hK113 => ?_
          refine zE 6 (hK113 _ _ ?_)
          refine W.ret (ret_block (ret_seq (ret_seq (ret_block (ret_seq ?_)))))
          obtain rfl := some_inj hm
          have hs114 := St.tk0 hs111
          refine ret_of (.tuple #[(.int .i64 2), (.int .i64 p91), (.int .i64 0), (.int .i64 (at_ - (sessAt p91)))]) (by kernel_rfl) ⟨_, ⟨rfl, rfl⟩, hs114⟩
         ·
          have h112p : ¬ (p109 = true) := ne_true_of_eq_false h112
          replace hm := ite_no hm h112p
          refine W.skip ?_
          refine normal_block ?_
          refine hK99 _ _ ?_
          refine W.region ?_
          refine zR 1 ?_
          obtain ⟨h115, hm⟩ := need_some hm
          refine zI _ (wrap_i64 h115.1 h115.2) ?_
          refine zE 1 ?_
          refine loopAt_next ?_
          exact ih93 (p91 + 1) _ _ ⟨slots_intro _ (by kernel_rfl), hs111⟩ hm
        ·
         refine W.region ?_
         refine zR 3 ?_
         rcases Bool.eq_false_or_eq_true (decide ((at_ - (sessAt p91)) ≥ 0)) with h116 | h116
         ·
          obtain ⟨h116p, hm⟩ := iY hm h116
          refine zS 79 h116 ?_
          refine zS 78 h116 ?_
          refine zE 3 ?_
          exact ⟨(decide ((at_ - (sessAt p91)) < 64)), slots_intro _ (by kernel_rfl), hs107, hm⟩
         ·
          obtain ⟨h116p, hm⟩ := iN hm h116
          refine zS 79 h116 ?_
          refine zS 78 h116 ?_
          refine zE 3 ?_
          exact ⟨false, slots_intro _ (by kernel_rfl), hs107, hm⟩
       ·
        refine W.sr fun K117 hK117 => ?_
        refine zE 1 (hK117 _ _ ?_)
        refine W.block ?_
        refine W.loop_iter (G := Int) (σ := Int) (fun | p118 => p118) (fun | p118, s_, w_ => (∃ us, s_ = slots 136 [(1, (.int .i64 at_)), (2, (.pointer (some ⟨b4, 0, none⟩))), (8, (.int .i64 p91)), (11, (.int .i64 p118))] us) ∧ St B w [] w_ [blk b4 (.cells [(.int .i64 gw), (.int .i64 gi), (.int .i64 gb)].toArray 88 (0, 0))]) 0 ⟨slots_intro _ (by kernel_rfl), hs101⟩ hm ?_
        rintro k119 ih120 p118 _ w121 ⟨⟨us, rfl⟩, hs122⟩ hm
        replace hm : rwhere_B2 at_ k92 p91 k119 p118 = some r := hm
        unfold rwhere_B2 at hm
        refine W.seq fun K123 hK123 => ?_
        refine W.sr fun K124 hK124 => ?_
        refine zE 2 (hK124 _ _ ?_)
        refine W.cond (decide (p118 < 4)) (by kernel_rfl) (fun h125 => ?_) (fun h125 => ?_)
        ·
         obtain ⟨h125p, hm⟩ := iY hm h125
         refine W.skip ?_
         refine hK123 _ _ ?_
         refine W.seq fun K126 hK126 => ?_
         refine W.block ?_
         refine W.sr fun K127 hK127 => ?_
         refine zR 3 ?_
         refine zC00 hs122 (rdescat_spec (i_ := p91) (k_ := p118) B _) fun w128 hs130 => ?_
         obtain ⟨h131, hm⟩ := need_some hm
         refine zI _ (wrap_i64 h131.1 h131.2) ?_
         refine zR 1 ?_
         obtain ⟨r132, h133, hm⟩ := bind_some hm
         replace h133 := some_inj h133
         refine ops_set 12 (v := .int .i64 r132) (Eq.trans (by kernel_rfl) (congrArg (Value.int .i64) h133)) ?_
         refine zD (hK127 _ _ ?_)
         refine W.seq_join (fun s_ w_ => ∃ (p134 : Bool), (∃ us, s_ = slots 136 [(1, (.int .i64 at_)), (2, (.pointer (some ⟨b4, 0, none⟩))), (8, (.int .i64 p91)), (11, (.int .i64 p118)), (12, (.int .i64 r132)), (69, (.bool p134))] us) ∧ St B w [] w_ [blk b4 (.cells [(.int .i64 gw), (.int .i64 gi), (.int .i64 gb)].toArray 88 (0, 0))] ∧ rwhere_J11 p91 k119 p118 r132 p134 = some r) ?_ ?_
         ·
          rintro _ w135 ⟨p134, ⟨us, rfl⟩, hs136, hm⟩
          unfold rwhere_J11 at hm
          refine W.cond p134 (by kernel_rfl) (fun h137 => ?_) (fun h137 => ?_)
          ·
           have h137p : p134 = true := h137
           replace hm := ite_yes hm h137p
           refine W.sr fun K138 hK138 => ?_
           refine zE 7 (hK138 _ _ ?_)
           refine W.ret (ret_block (ret_seq (ret_seq (ret_block (ret_seq (ret_block (ret_seq (ret_seq (ret_block (ret_seq ?_))))))))))
           obtain rfl := some_inj hm
           have hs139 := St.tk0 hs136
           refine ret_of (.tuple #[(.int .i64 4), (.int .i64 p91), (.int .i64 p118), (.int .i64 r132)]) (by kernel_rfl) ⟨_, ⟨rfl, rfl⟩, hs139⟩
          ·
           have h137p : ¬ (p134 = true) := ne_true_of_eq_false h137
           replace hm := ite_no hm h137p
           refine W.skip ?_
           refine normal_block ?_
           refine hK126 _ _ ?_
           refine W.region ?_
           refine zR 1 ?_
           obtain ⟨h140, hm⟩ := need_some hm
           refine zI _ (wrap_i64 h140.1 h140.2) ?_
           refine zE 1 ?_
           refine loopAt_next ?_
           exact ih120 (p118 + 1) _ _ ⟨slots_intro _ (by kernel_rfl), hs136⟩ hm
         ·
          refine W.region ?_
          refine zR 3 ?_
          rcases Bool.eq_false_or_eq_true (decide (r132 ≥ 0)) with h141 | h141
          ·
           obtain ⟨h141p, hm⟩ := iY hm h141
           refine zS 66 h141 ?_
           refine zS 65 h141 ?_
           refine zE 3 ?_
           exact ⟨(decide (r132 < 2)), slots_intro _ (by kernel_rfl), hs130, hm⟩
          ·
           obtain ⟨h141p, hm⟩ := iN hm h141
           refine zS 66 h141 ?_
           refine zS 65 h141 ?_
           refine zE 3 ?_
           exact ⟨false, slots_intro _ (by kernel_rfl), hs130, hm⟩
        ·
         obtain ⟨h125p, hm⟩ := iN hm h125
         refine W.exit (exit_seq (exit_seq (exit_here ?_)))
         exact ⟨slots_intro _ (by kernel_rfl), hs122, hm⟩
      ·
       refine W.sr fun K142 hK142 => ?_
       refine zE 1 (hK142 _ _ ?_)
       refine W.block ?_
       refine W.loop_iter (G := Int) (σ := Int) (fun | p143 => p143) (fun | p143, s_, w_ => (∃ us, s_ = slots 136 [(1, (.int .i64 at_)), (2, (.pointer (some ⟨b4, 0, none⟩))), (8, (.int .i64 p91)), (9, (.int .i64 p143))] us) ∧ St B w [] w_ [blk b4 (.cells [(.int .i64 gw), (.int .i64 gi), (.int .i64 gb)].toArray 88 (0, 0))]) 0 ⟨slots_intro _ (by kernel_rfl), hs95⟩ hm ?_
       rintro k144 ih145 p143 _ w146 ⟨⟨us, rfl⟩, hs147⟩ hm
       replace hm : rwhere_B1 at_ k92 p91 k144 p143 = some r := hm
       unfold rwhere_B1 at hm
       refine W.seq fun K148 hK148 => ?_
       refine W.sr fun K149 hK149 => ?_
       refine zE 2 (hK149 _ _ ?_)
       refine W.cond (decide (p143 < 4)) (by kernel_rfl) (fun h150 => ?_) (fun h150 => ?_)
       ·
        obtain ⟨h150p, hm⟩ := iY hm h150
        refine W.skip ?_
        refine hK148 _ _ ?_
        refine W.seq fun K151 hK151 => ?_
        refine W.block ?_
        refine W.sr fun K152 hK152 => ?_
        refine zR 3 ?_
        refine zC00 hs147 (rslotat_spec (i_ := p91) (k_ := p143) B _) fun w153 hs155 => ?_
        obtain ⟨h156, hm⟩ := need_some hm
        refine zI _ (wrap_i64 h156.1 h156.2) ?_
        refine zR 1 ?_
        obtain ⟨r157, h158, hm⟩ := bind_some hm
        replace h158 := some_inj h158
        refine ops_set 10 (v := .int .i64 r157) (Eq.trans (by kernel_rfl) (congrArg (Value.int .i64) h158)) ?_
        refine zD (hK152 _ _ ?_)
        refine W.seq_join (fun s_ w_ => ∃ (p159 : Bool), (∃ us, s_ = slots 136 [(1, (.int .i64 at_)), (2, (.pointer (some ⟨b4, 0, none⟩))), (8, (.int .i64 p91)), (9, (.int .i64 p143)), (10, (.int .i64 r157)), (51, (.bool p159))] us) ∧ St B w [] w_ [blk b4 (.cells [(.int .i64 gw), (.int .i64 gi), (.int .i64 gb)].toArray 88 (0, 0))] ∧ rwhere_J13 p91 k144 p143 r157 p159 = some r) ?_ ?_
        ·
         rintro _ w160 ⟨p159, ⟨us, rfl⟩, hs161, hm⟩
         unfold rwhere_J13 at hm
         refine W.cond p159 (by kernel_rfl) (fun h162 => ?_) (fun h162 => ?_)
         ·
          have h162p : p159 = true := h162
          replace hm := ite_yes hm h162p
          refine W.sr fun K163 hK163 => ?_
          refine zE 7 (hK163 _ _ ?_)
          refine W.ret (ret_block (ret_seq (ret_seq (ret_block (ret_seq (ret_block (ret_seq (ret_seq (ret_block (ret_seq ?_))))))))))
          obtain rfl := some_inj hm
          have hs164 := St.tk0 hs161
          refine ret_of (.tuple #[(.int .i64 3), (.int .i64 p91), (.int .i64 p143), (.int .i64 r157)]) (by kernel_rfl) ⟨_, ⟨rfl, rfl⟩, hs164⟩
         ·
          have h162p : ¬ (p159 = true) := ne_true_of_eq_false h162
          replace hm := ite_no hm h162p
          refine W.skip ?_
          refine normal_block ?_
          refine hK151 _ _ ?_
          refine W.region ?_
          refine zR 1 ?_
          obtain ⟨h165, hm⟩ := need_some hm
          refine zI _ (wrap_i64 h165.1 h165.2) ?_
          refine zE 1 ?_
          refine loopAt_next ?_
          exact ih145 (p143 + 1) _ _ ⟨slots_intro _ (by kernel_rfl), hs161⟩ hm
        ·
         refine W.region ?_
         refine zR 3 ?_
         rcases Bool.eq_false_or_eq_true (decide (r157 ≥ 0)) with h166 | h166
         ·
          obtain ⟨h166p, hm⟩ := iY hm h166
          refine zS 48 h166 ?_
          refine zS 47 h166 ?_
          refine zE 3 ?_
          exact ⟨(decide (r157 < 12)), slots_intro _ (by kernel_rfl), hs155, hm⟩
         ·
          obtain ⟨h166p, hm⟩ := iN hm h166
          refine zS 48 h166 ?_
          refine zS 47 h166 ?_
          refine zE 3 ?_
          exact ⟨false, slots_intro _ (by kernel_rfl), hs155, hm⟩
       ·
        obtain ⟨h150p, hm⟩ := iN hm h150
        refine W.exit (exit_seq (exit_seq (exit_here ?_)))
        exact ⟨slots_intro _ (by kernel_rfl), hs147, hm⟩
     ·
      obtain ⟨h98p, hm⟩ := iN hm h98
      refine W.exit (exit_seq (exit_seq (exit_here ?_)))
      exact ⟨slots_intro _ (by kernel_rfl), hs95, hm⟩
 ·
  refine W.region ?_
  refine ops_R (runs_loadAgg (ad := ⟨b4, 0, none⟩) (cs := [(.int .i64 gw), (.int .i64 gi), (.int .i64 gb)]) (by kernel_rfl) (cells_sub (hs3.heapAt 0 rfl) rfl)) ?_
  refine zC00 hs3 (rmay_spec (gw := gw) (gi := gi) (gb := gb) B _) fun w167 hs169 => ?_
  refine zR 2 ?_
  rcases Bool.eq_false_or_eq_true (!(decide (May gw gi gb))) with h170 | h170
  rotate_left
  ·
   have h170p : May gw gi gb := of_decide_eq_true (bnot_false h170)
   replace hm := ite_yes hm h170p
   refine zS 20 h170 ?_
   refine zS 19 h170 ?_
   refine zR 4 ?_
   rcases Bool.eq_false_or_eq_true (decide (at_ < 0)) with h171 | h171
   ·
    obtain ⟨h171p, hm⟩ := iY hm h171
    refine zS 24 h171 ?_
    refine zS 22 h171 ?_
    refine zS 23 h171 ?_
    refine zE 5 ?_
    exact ⟨true, slots_intro _ (by kernel_rfl), hs169, hm⟩
   ·
    obtain ⟨h171p, hm⟩ := iN hm h171
    refine zS 24 h171 ?_
    refine zS 22 h171 ?_
    refine zS 23 h171 ?_
    refine zR 1 ?_
    refine ops_R (runs_loadAgg (ad := ⟨b4, 0, none⟩) (cs := [(.int .i64 gw), (.int .i64 gi), (.int .i64 gb)]) (by kernel_rfl) (cells_sub (hs169.heapAt 0 rfl) rfl)) ?_
    obtain ⟨r172, h173, hm⟩ := bind_some hm
    replace h173 := some_inj h173
    refine ops_call0 hs169 (by kernel_rfl) (rwords_spec (gw := gw) (gi := gi) (gb := gb) B _) ?_
    rintro _ _ w174 ⟨hv176, hH177⟩ hs175
    rw [h173] at hv176
    try rw [h173] at hH177
    subst hv176 hH177
    have hs178 := St.ap0 hs175
    refine zE 2 ?_
    exact ⟨(decide (at_ ≥ r172)), slots_intro _ (by kernel_rfl), hs178, hm⟩
  ·
   have h170p : ¬ (May gw gi gb) := of_decide_eq_false (bnot_true h170)
   replace hm := ite_no hm h170p
   refine zS 20 h170 ?_
   refine zS 19 h170 ?_
   refine zE 9 ?_
   exact ⟨true, slots_intro _ (by kernel_rfl), hs169, hm⟩

end Go.Proofs.YthimamnblklkbaaDoor

set_option linter.unusedVariables false
set_option maxRecDepth 20000
set_option maxHeartbeats 4000000
namespace Go.Proofs.YthimamnblklkbaaDoor
open Go Go.RowKit
set_option linter.unusedSimpArgs false
set_option linter.unusedVariables false

def slotwipes_J3 (r19 : List Int) (r34 : Int × List (Int × Int)) (k62 : Int → Option (Bool)) (p61 : Int) (p81 : Bool) : Option (Bool) :=
 if p81 = true then (need (0 ≤ p61 ∧ p61 < (((vflat r19 r34.2).length) : Int)) <|
if ((vflat r19 r34.2).getD p61.toNat 0) = 0 then (need (-9223372036854775808 ≤ (p61 + 1) ∧ (p61 + 1) ≤ 9223372036854775807) <|
k62 (p61 + 1)) else (some false)) else (need (0 ≤ p61 ∧ p61 < (((vflat r19 r34.2).length) : Int)) <|
need (0 ≤ p61 ∧ p61 < (r19.length : Int)) <|
if ((vflat r19 r34.2).getD p61.toNat 0) = (r19.getD p61.toNat 0) then (need (-9223372036854775808 ≤ (p61 + 1) ∧ (p61 + 1) ≤ 9223372036854775807) <|
k62 (p61 + 1)) else (some false))

def slotwipes_B1 (i_ : Int) (r19 : List Int) (r34 : Int × List (Int × Int)) (k62 : Int → Option (Bool)) (p61 : Int) : Option (Bool) :=
 if p61 < (r19.length : Int) then (need ((0 : Int) ≤ 0 ∧ (0 : Int) ≤ 255) <|
need ((0 : Int) ≤ 0 ∧ (0 : Int) ≤ 255) <|
(rwhere_M 1 (2 + 0 % 20) (2 + 0 % 60) p61).bind fun r76 =>
if r76.2.1 = i_.tmod 4 then (if r76.1 = 3 then (if r76.2.2.2 = 0 then (slotwipes_J3 r19 r34 k62 p61 true) else (slotwipes_J3 r19 r34 k62 p61 (decide (r76.1 = 4)))) else (slotwipes_J3 r19 r34 k62 p61 (decide (r76.1 = 4)))) else (slotwipes_J3 r19 r34 k62 p61 false)) else ((works10_M).bind fun r105 =>
some r105)

def slotwipes_J1 (i_ : Int) (r19 : List Int) (r34 : Int × List (Int × Int)) : Option (Bool) :=
 iter (fun k_ s_ => slotwipes_B1 i_ r19 r34 k_ s_) FUEL 0

def slotwipes_B0 (i_ : Int) (r19 : List Int) (r34 : Int × List (Int × Int)) (k113 : Int → Option (Bool)) (p112 : Int) : Option (Bool) :=
 if p112 < 4 then ((sload_M r19 r34.2 (i_.tmod 4) p112).bind fun r125 =>
if r125.1 = 0 then (if r125.2.1 = 0 ∧ r125.2.2.1 = 0 ∧ r125.2.2.2.1 = 0 ∧ r125.2.2.2.2.1 = ByteArray.empty then (if r125.2.2.2.2.2 = 0 then (need (-9223372036854775808 ≤ (p112 + 1) ∧ (p112 + 1) ≤ 9223372036854775807) <|
k113 (p112 + 1)) else (some false)) else (some false)) else (some false)) else (slotwipes_J1 i_ r19 r34)

def slotwipes_M (ts : List TTn) (i_ : Int) : Option (Bool) :=
 if (ts.length : Int) > 40 then ((works10_M).bind fun r6 =>
some r6) else (need ((0 : Int) ≤ 0 ∧ (0 : Int) ≤ 255) <|
need ((0 : Int) ≤ 0 ∧ (0 : Int) ≤ 255) <|
(image_M 1 (2 + 0 % 20) (2 + 0 % 60) ts 0).bind fun r19 =>
need (r19.length ≤ 17592186044415) <|
need (-9223372036854775808 ≤ i_ ∧ i_ ≤ 9223372036854775807) <|
(swipe_M r19 ([]) (i_.tmod 4)).bind fun r34 =>
if r34.1 = 0 then (if (((vflat r19 r34.2).length) : Int) = (r19.length : Int) then (if (r34.2.length : Int) > 12 then (some false) else (iter (fun k_ s_ => slotwipes_B0 i_ r19 r34 k_ s_) FUEL 0)) else (some false)) else (some false))

theorem slotwipes_walk {ts : List TTn} {i_ : Int} {ta : Option Addr} {tc : Nat}  (B : Nat) (w : World) (hB : w.heap.size = B) (hL : CellsAt (some ⟨1, 0, none⟩) [(.int .i64 1), (.int .i64 2), (.int .i64 2)] w) (ht : CellsAt ta (kTn.cells ts) w) (hm : slotwipes_M ts i_ = some true) : Spec Tryd.prog 10 #[(.slice ta ts.length tc), (.int .u8 i_)] B w [] (fun v H' => v = .bool true ∧ H' = []) := by
 refine spec_Q Tryd.func10 rfl fun hs => ?_
 unfold slotwipes_M at hm
 have hG2 : 1 < B := by rw [← hB]; exact lt_of_cells hL (v := .int .i64 1) rfl
 refine W.sr fun K1 hK1 => ?_
 refine zE 1 (hK1 _ _ ?_)
 refine W.seq fun K2 hK2 => ?_
 refine W.sr fun K3 hK3 => ?_
 refine zE 3 (hK3 _ _ ?_)
 refine W.cond (decide ((ts.length : Int) > 40)) (by kernel_rfl) (fun h4 => ?_) (fun h4 => ?_)
 ·
  obtain ⟨h4p, hm⟩ := iY hm h4
  refine W.sr fun K5 hK5 => ?_
  obtain ⟨r6, h7, hm⟩ := bind_some hm
  refine zC00 hs (works10_walk (hG2 := hG2) (hL := (hs.oldCells hL)) (hm := h7) B _) fun w8 hs10 => ?_
  refine zE 1 (hK5 _ _ ?_)
  refine W.ret (ret_seq ?_)
  refine ret_of (.bool r6) (by kernel_rfl) ⟨_, ⟨congrArg Value.bool (some_inj hm), rfl⟩, hs10⟩
 ·
  obtain ⟨h4p, hm⟩ := iN hm h4
  refine W.skip ?_
  refine hK2 _ _ ?_
  refine W.sr fun K11 hK11 => ?_
  obtain ⟨h12, hm⟩ := need_some hm
  obtain ⟨h13, hm⟩ := need_some hm
  refine zC00 hs (small_spec (x_ := 0) (y_ := 0) (hx := h12) (hy := h13) B _) fun w14 hs16 => ?_
  refine zR 1 ?_
  obtain ⟨r19, h20, hm⟩ := bind_some hm
  refine ops_call0 hs16 (by kernel_rfl) (image_walk (tc := tc) (ht := (hs16.oldCells ht)) (hm := h20) B _) ?_
  rintro _ _ w21 ⟨a17, c18, rfl, rfl⟩ hs22
  have hs23 := St.ap1 hs22
  refine zE 1 (hK11 _ _ ?_)
  refine W.sr fun K24 hK24 => ?_
  refine zR 1 ?_
  obtain ⟨h26, hm⟩ := need_some hm
  refine ops_call0 hs23 (by kernel_rfl) (new_spec (hc := (St.kcells kU64 hs23 0 rfl)) (hn := (St.capnil kU64 hs23 0 rfl)) (hsz := h26) B _) ?_
  rintro _ _ w27 ⟨b25, rfl, rfl⟩ hs28
  have hs29 := St.ap1 hs28
  refine zE 1 (hK24 _ _ ?_)
  refine W.sr fun K30 hK30 => ?_
  refine zR 1 ?_
  obtain ⟨h31, hm⟩ := need_some hm
  refine zI _ (wrap_i64 h31.1 h31.2) ?_
  refine zE 2 (hK30 _ _ ?_)
  refine W.seq fun K32 hK32 => ?_
  refine W.sr fun K33 hK33 => ?_
  refine zR 5 ?_
  obtain ⟨r34, h35, hm⟩ := bind_some hm
  refine zC11 hs29 (swipe_walk (vb := b25) (i_ := i_.tmod 4) (img := r19) (l := []) (hG2 := hG2) (hL := (hs29.oldCells hL)) (hm := h35) B _) fun w36 hs38 => ?_
  refine zE 2 (hK33 _ _ ?_)
  refine W.cond (!decide (r34.1 = 0)) (by kernel_rfl) (fun h39 => ?_) (fun h39 => ?_)
  rotate_left
  ·
   have h39p : r34.1 = 0 := of_decide_eq_true (bnot_false h39)
   replace hm := ite_yes hm h39p
   refine W.skip ?_
   refine hK32 _ _ ?_
   refine W.sr fun K40 hK40 => ?_
   refine zR 1 ?_
   refine ops_call0 hs38 (by kernel_rfl) (flat_spec (hv := (hs38.entAt 0 rfl viewA_at)) B _) ?_
   rintro _ _ w43 ⟨a41, c42, rfl, rfl⟩ hs44
   have hs45 := St.ap1 hs44
   refine zE 1 (hK40 _ _ ?_)
   refine W.seq fun K46 hK46 => ?_
   refine W.sr fun K47 hK47 => ?_
   refine zR 6 ?_
   rcases Bool.eq_false_or_eq_true (!decide ((((vflat r19 r34.2).length) : Int) = (r19.length : Int))) with h48 | h48
   rotate_left
   ·
    have h48p : (((vflat r19 r34.2).length) : Int) = (r19.length : Int) := of_decide_eq_true (bnot_false h48)
    replace hm := ite_yes hm h48p
    refine zS 46 h48 ?_
    refine zS 45 h48 ?_
    refine zR 1 ?_
    refine ops_call0 hs45 (by kernel_rfl) (writes_spec (hv := (hs45.entAt 1 rfl viewA_at)) B _) ?_
    rintro _ _ w51 ⟨a49, c50, rfl, rfl⟩ hs52
    have hs53 := St.ap1 hs52
    refine zE 3 (hK47 _ _ ?_)
    refine W.cond (decide ((r34.2.length : Int) > 12)) (by kernel_rfl) (fun h54 => ?_) (fun h54 => ?_)
    ·
     obtain ⟨h54p, hm⟩ := iY hm h54
     refine W.sr fun K55 hK55 => ?_
     refine zE 1 (hK55 _ _ ?_)
     refine W.ret (ret_seq ?_)
     have hs56 := St.tk0 hs53
     refine ret_of (.bool false) (by kernel_rfl) ⟨_, ⟨congrArg Value.bool (some_inj hm), rfl⟩, hs56⟩
    ·
     obtain ⟨h54p, hm⟩ := iN hm h54
     refine W.skip ?_
     refine hK46 _ _ ?_
     refine W.seq_join (fun s_ w_ => (∃ us, s_ = slots 128 [(5, (.slice a17 r19.length c18)), (7, (.int .i64 (i_.tmod 4))), (8, (.slice a41 ((vflat r19 r34.2).length) c42))] us) ∧ St B w [] w_ [kU64.row a17 c18 r19, kU64.row a41 c42 (vflat r19 r34.2), kWr.row a49 c50 r34.2, viewA (ptr b25) r19 r34.2] ∧ slotwipes_J1 i_ r19 r34 = some true) ?_ ?_
     ·
      rintro _ w57 ⟨⟨us, rfl⟩, hs58, hm⟩
      unfold slotwipes_J1 at hm
      refine W.seq fun K59 hK59 => ?_
      refine W.sr fun K60 hK60 => ?_
      refine zE 1 (hK60 _ _ ?_)
      refine W.block ?_
      refine W.loop_iter (G := Int) (σ := Int) (fun | p61 => p61) (fun | p61, s_, w_ => (∃ us, s_ = slots 128 [(5, (.slice a17 r19.length c18)), (7, (.int .i64 (i_.tmod 4))), (8, (.slice a41 ((vflat r19 r34.2).length) c42)), (13, (.int .i64 p61))] us) ∧ St B w [] w_ [kU64.row a17 c18 r19, kU64.row a41 c42 (vflat r19 r34.2), kWr.row a49 c50 r34.2, viewA (ptr b25) r19 r34.2]) 0 ⟨slots_intro _ (by kernel_rfl), hs58⟩ hm ?_
      rintro k62 ih63 p61 _ w64 ⟨⟨us, rfl⟩, hs65⟩ hm
      replace hm : slotwipes_B1 i_ r19 r34 k62 p61 = some true := hm
      unfold slotwipes_B1 at hm
      refine W.seq fun K66 hK66 => ?_
      refine W.sr fun K67 hK67 => ?_
      refine zE 4 (hK67 _ _ ?_)
      refine W.cond (decide (p61 < (r19.length : Int))) (by kernel_rfl) (fun h68 => ?_) (fun h68 => ?_)
      ·
       obtain ⟨h68p, hm⟩ := iY hm h68
       refine W.skip ?_
       refine hK66 _ _ ?_
       refine W.seq fun K69 hK69 => ?_
       refine W.block ?_
       refine W.sr fun K70 hK70 => ?_
       obtain ⟨h71, hm⟩ := need_some hm
       obtain ⟨h72, hm⟩ := need_some hm
       refine zC00 hs65 (small_spec (x_ := 0) (y_ := 0) (hx := h71) (hy := h72) B _) fun w73 hs75 => ?_
       refine zR 1 ?_
       obtain ⟨r76, h77, hm⟩ := bind_some hm
       refine zC00 hs75 (rwhere_walk (gw := 1) (gi := (2 + 0 % 20)) (gb := (2 + 0 % 60)) (at_ := p61) (hm := h77) B _) fun w78 hs80 => ?_
       refine zE 9 (hK70 _ _ ?_)
       refine W.seq_join (fun s_ w_ => ∃ (p81 : Bool), (∃ us, s_ = slots 128 [(5, (.slice a17 r19.length c18)), (7, (.int .i64 (i_.tmod 4))), (8, (.slice a41 ((vflat r19 r34.2).length) c42)), (13, (.int .i64 p61)), (18, (.bool p81))] us) ∧ St B w [] w_ [kU64.row a17 c18 r19, kU64.row a41 c42 (vflat r19 r34.2), kWr.row a49 c50 r34.2, viewA (ptr b25) r19 r34.2] ∧ slotwipes_J3 r19 r34 k62 p61 p81 = some true) ?_ ?_
       ·
        rintro _ w82 ⟨p81, ⟨us, rfl⟩, hs83, hm⟩
        unfold slotwipes_J3 at hm
        refine W.seq fun K84 hK84 => ?_
        have hs85 := hs83.drew
        refine W.regionD [(0, 0), (1, 1), (2, 2), (2, 2), (14, 14), (18, 18), (34, 34), (66, 66), (130, 128), (256, 256), (768, 768), (1280, 1280), (2048, 2048), (2048, 2048), (14336, 14336), (18432, 18432), (2048, 2048), (2048, 2048), (198656, 198656), (264192, 264192), (559104, 559104), (1050880, 1050880), (2097408, 2097408)] (fun w_ => St B w [] w_ [kU64.row a17 c18 r19, kU64.row a41 c42 (vflat r19 r34.2), kWr.row a49 c50 r34.2, viewA (ptr b25) r19 r34.2]) (by kernel_rfl) hs85 ?_
        refine any_val (v := (.bool p81)) (v' := (.bool p81)) 0 (by kernel_rfl) (fun _ => by kernel_rfl) rfl hs85 ?_
        refine any_val (v := (.bool p81)) (v' := (.bool p81)) 1 (by kernel_rfl) (fun _ => by kernel_rfl) rfl hs85 ?_
        rcases Bool.eq_false_or_eq_true p81 with h86 | h86
        ·
         have h86p : p81 = true := h86
         replace hm := ite_yes hm h86p
         refine any_set 18 (v := .bool true) (eq_bool_of (by kernel_rfl) h86) ?_
         refine any_set 104 (v := .bool true) (eq_bool_of (by kernel_rfl) h86) ?_
         refine any_set 105 (v := .bool true) (eq_bool_of (by kernel_rfl) h86) ?_
         refine any_val (v := (.slice a41 ((vflat r19 r34.2).length) c42)) (v' := (.slice a41 ((vflat r19 r34.2).length) c42)) 2 (by kernel_rfl) (fun _ => by kernel_rfl) rfl hs85 ?_
         refine any_val (v := (.int .i64 p61)) (v' := (.int .i64 p61)) 3 (by kernel_rfl) (fun _ => by kernel_rfl) rfl hs85 ?_
         obtain ⟨h88, hm⟩ := need_some hm
         have hk87 := lt_toNat h88
         refine any_R 4 (by kernel_rfl) (fun _ hS_ => runs_index (a := a41) (n := (vflat r19 r34.2).length) (z := p61) (size := 1) p61.toNat (nat_of h88.1) hk87 (kU64.addr (St.kcells kU64 hs85 1 rfl) hk87) (by kernel_rfl)) hs85 ?_
         refine any_R 5 (by kernel_rfl) (fun _ hS_ => runs_load (ad := ((adr a41 (p61.toNat * 1)).add 0)) (v := (.int .u64 ((vflat r19 r34.2).getD p61.toNat 0))) (by kernel_rfl) (kU64.at (St.kcells kU64 hS_ 1 rfl) hk87 0 0 rfl)) hs85 ?_
         refine any_val (v := (.bool (!decide (((vflat r19 r34.2).getD p61.toNat 0) = 0)))) (v' := (.bool (!decide (((vflat r19 r34.2).getD p61.toNat 0) = 0)))) 6 (by kernel_rfl) (fun _ => by kernel_rfl) rfl hs85 ?_
         refine any_val (v := (.bool (!decide (((vflat r19 r34.2).getD p61.toNat 0) = 0)))) (v' := (.bool (!decide (((vflat r19 r34.2).getD p61.toNat 0) = 0)))) 7 (by kernel_rfl) (fun _ => by kernel_rfl) rfl hs85 ?_
         refine any_val (v := (.bool (!decide (((vflat r19 r34.2).getD p61.toNat 0) = 0)))) (v' := (.bool (!decide (((vflat r19 r34.2).getD p61.toNat 0) = 0)))) 8 (by kernel_rfl) (fun _ => by kernel_rfl) rfl hs85 ?_
         rcases Bool.eq_false_or_eq_true (!decide (((vflat r19 r34.2).getD p61.toNat 0) = 0)) with h89 | h89
         rotate_left
         ·
          have h89p : ((vflat r19 r34.2).getD p61.toNat 0) = 0 := of_decide_eq_true (bnot_false h89)
          replace hm := ite_yes hm h89p
          refine any_set 110 (v := .bool false) (eq_bool_of (by kernel_rfl) h89) ?_
          refine any_set 111 (v := .bool false) (eq_bool_of (by kernel_rfl) h89) ?_
          refine any_set 112 (v := .bool false) (eq_bool_of (by kernel_rfl) h89) ?_
          refine any_val (v := (.bool true)) (v' := (.bool true)) 9 (by kernel_rfl) (fun _ => by kernel_rfl) rfl hs85 ?_
          refine any_val (v := (.bool false)) (v' := (.bool false)) 10 (by kernel_rfl) (fun _ => by kernel_rfl) rfl hs85 ?_
          refine any_val (v := (.bool false)) (v' := (.bool false)) 11 (by kernel_rfl) (fun _ => by kernel_rfl) rfl hs85 ?_
          refine any_skip 12 (by kernel_rfl) (by kernel_rfl) hs85 ?_
          refine any_skip 13 (by kernel_rfl) (by kernel_rfl) hs85 ?_
          refine any_skip 14 (by kernel_rfl) (by kernel_rfl) hs85 ?_
          refine any_skip 15 (by kernel_rfl) (by kernel_rfl) hs85 ?_
          refine any_skip 16 (by kernel_rfl) (by kernel_rfl) hs85 ?_
          refine any_skip 17 (by kernel_rfl) (by kernel_rfl) hs85 ?_
          refine any_skip 18 (by kernel_rfl) (by kernel_rfl) hs85 ?_
          refine any_skip 19 (by kernel_rfl) (by kernel_rfl) hs85 ?_
          refine any_skip 20 (by kernel_rfl) (by kernel_rfl) hs85 ?_
          refine any_val (v := (.bool false)) (v' := (.bool false)) 21 (by kernel_rfl) (fun _ => by kernel_rfl) rfl hs85 ?_
          refine any_val (v := (.bool false)) (v' := (.bool false)) 22 (by kernel_rfl) (fun _ => by kernel_rfl) rfl hs85 ?_
          refine any_done (by kernel_rfl) ?_
          refine hK84 _ _ ?_
          refine W.cond_false false (by kernel_rfl) rfl ?_
          refine W.skip ?_
          refine normal_block ?_
          refine hK69 _ _ ?_
          refine W.region ?_
          refine zR 1 ?_
          obtain ⟨h90, hm⟩ := need_some hm
          refine zI _ (wrap_i64 h90.1 h90.2) ?_
          refine zE 1 ?_
          refine loopAt_next ?_
          exact ih63 (p61 + 1) _ _ ⟨slots_intro _ (by kernel_rfl), hs85⟩ hm
         ·
          have h89p : ¬ (((vflat r19 r34.2).getD p61.toNat 0) = 0) := of_decide_eq_false (bnot_true h89)
          replace hm := ite_no hm h89p
          refine any_set 110 (v := .bool true) (eq_bool_of (by kernel_rfl) h89) ?_
          refine any_set 111 (v := .bool true) (eq_bool_of (by kernel_rfl) h89) ?_
          refine any_set 112 (v := .bool true) (eq_bool_of (by kernel_rfl) h89) ?_
          refine any_skip 9 (by kernel_rfl) (by kernel_rfl) hs85 ?_
          refine any_skip 10 (by kernel_rfl) (by kernel_rfl) hs85 ?_
          refine any_skip 11 (by kernel_rfl) (by kernel_rfl) hs85 ?_
          refine any_skip 12 (by kernel_rfl) (by kernel_rfl) hs85 ?_
          refine any_skip 13 (by kernel_rfl) (by kernel_rfl) hs85 ?_
          refine any_skip 14 (by kernel_rfl) (by kernel_rfl) hs85 ?_
          refine any_skip 15 (by kernel_rfl) (by kernel_rfl) hs85 ?_
          refine any_skip 16 (by kernel_rfl) (by kernel_rfl) hs85 ?_
          refine any_skip 17 (by kernel_rfl) (by kernel_rfl) hs85 ?_
          refine any_skip 18 (by kernel_rfl) (by kernel_rfl) hs85 ?_
          refine any_skip 19 (by kernel_rfl) (by kernel_rfl) hs85 ?_
          refine any_skip 20 (by kernel_rfl) (by kernel_rfl) hs85 ?_
          refine any_skip 21 (by kernel_rfl) (by kernel_rfl) hs85 ?_
          refine any_val (v := (.bool true)) (v' := (.bool true)) 22 (by kernel_rfl) (fun _ => by kernel_rfl) rfl hs85 ?_
          refine any_done (by kernel_rfl) ?_
          refine hK84 _ _ ?_
          refine W.cond_true true (by kernel_rfl) rfl ?_
          refine W.sr fun K91 hK91 => ?_
          refine zE 1 (hK91 _ _ ?_)
          refine W.ret (ret_block (ret_seq (ret_seq (ret_block (ret_seq ?_)))))
          have hs92 := St.tk0 hs85
          refine ret_of (.bool false) (by kernel_rfl) ⟨_, ⟨congrArg Value.bool (some_inj hm), rfl⟩, hs92⟩
        ·
         have h86p : ¬ (p81 = true) := ne_true_of_eq_false h86
         replace hm := ite_no hm h86p
         refine any_set 18 (v := .bool false) (eq_bool_of (by kernel_rfl) h86) ?_
         refine any_set 104 (v := .bool false) (eq_bool_of (by kernel_rfl) h86) ?_
         refine any_set 105 (v := .bool false) (eq_bool_of (by kernel_rfl) h86) ?_
         refine any_skip 2 (by kernel_rfl) (by kernel_rfl) hs85 ?_
         refine any_skip 3 (by kernel_rfl) (by kernel_rfl) hs85 ?_
         refine any_skip 4 (by kernel_rfl) (by kernel_rfl) hs85 ?_
         refine any_skip 5 (by kernel_rfl) (by kernel_rfl) hs85 ?_
         refine any_skip 6 (by kernel_rfl) (by kernel_rfl) hs85 ?_
         refine any_val (v := (.bool false)) (v' := (.bool false)) 7 (by kernel_rfl) (fun _ => by kernel_rfl) rfl hs85 ?_
         refine any_val (v := (.bool false)) (v' := (.bool false)) 8 (by kernel_rfl) (fun _ => by kernel_rfl) rfl hs85 ?_
         refine any_val (v := (.bool false)) (v' := (.bool false)) 9 (by kernel_rfl) (fun _ => by kernel_rfl) rfl hs85 ?_
         refine any_val (v := (.bool true)) (v' := (.bool true)) 10 (by kernel_rfl) (fun _ => by kernel_rfl) rfl hs85 ?_
         refine any_val (v := (.bool true)) (v' := (.bool true)) 11 (by kernel_rfl) (fun _ => by kernel_rfl) rfl hs85 ?_
         refine any_val (v := (.slice a41 ((vflat r19 r34.2).length) c42)) (v' := (.slice a41 ((vflat r19 r34.2).length) c42)) 12 (by kernel_rfl) (fun _ => by kernel_rfl) rfl hs85 ?_
         refine any_val (v := (.int .i64 p61)) (v' := (.int .i64 p61)) 13 (by kernel_rfl) (fun _ => by kernel_rfl) rfl hs85 ?_
         obtain ⟨h94, hm⟩ := need_some hm
         have hk93 := lt_toNat h94
         refine any_R 14 (by kernel_rfl) (fun _ hS_ => runs_index (a := a41) (n := (vflat r19 r34.2).length) (z := p61) (size := 1) p61.toNat (nat_of h94.1) hk93 (kU64.addr (St.kcells kU64 hs85 1 rfl) hk93) (by kernel_rfl)) hs85 ?_
         refine any_R 15 (by kernel_rfl) (fun _ hS_ => runs_load (ad := ((adr a41 (p61.toNat * 1)).add 0)) (v := (.int .u64 ((vflat r19 r34.2).getD p61.toNat 0))) (by kernel_rfl) (kU64.at (St.kcells kU64 hS_ 1 rfl) hk93 0 0 rfl)) hs85 ?_
         refine any_val (v := (.slice a17 r19.length c18)) (v' := (.slice a17 r19.length c18)) 16 (by kernel_rfl) (fun _ => by kernel_rfl) rfl hs85 ?_
         refine any_val (v := (.int .i64 p61)) (v' := (.int .i64 p61)) 17 (by kernel_rfl) (fun _ => by kernel_rfl) rfl hs85 ?_
         obtain ⟨h96, hm⟩ := need_some hm
         have hk95 := lt_toNat h96
         refine any_R 18 (by kernel_rfl) (fun _ hS_ => runs_index (a := a17) (n := r19.length) (z := p61) (size := 1) p61.toNat (nat_of h96.1) hk95 (kU64.addr (St.kcells kU64 hs85 0 rfl) hk95) (by kernel_rfl)) hs85 ?_
         refine any_R 19 (by kernel_rfl) (fun _ hS_ => runs_load (ad := ((adr a17 (p61.toNat * 1)).add 0)) (v := (.int .u64 (r19.getD p61.toNat 0))) (by kernel_rfl) (kU64.at (St.kcells kU64 hS_ 0 rfl) hk95 0 0 rfl)) hs85 ?_
         refine any_val (v := (.bool (!decide (((vflat r19 r34.2).getD p61.toNat 0) = (r19.getD p61.toNat 0))))) (v' := (.bool (!decide (((vflat r19 r34.2).getD p61.toNat 0) = (r19.getD p61.toNat 0))))) 20 (by kernel_rfl) (fun _ => by kernel_rfl) rfl hs85 ?_
         refine any_val (v := (.bool (!decide (((vflat r19 r34.2).getD p61.toNat 0) = (r19.getD p61.toNat 0))))) (v' := (.bool (!decide (((vflat r19 r34.2).getD p61.toNat 0) = (r19.getD p61.toNat 0))))) 21 (by kernel_rfl) (fun _ => by kernel_rfl) rfl hs85 ?_
         refine any_val (v := (.bool (!decide (((vflat r19 r34.2).getD p61.toNat 0) = (r19.getD p61.toNat 0))))) (v' := (.bool (!decide (((vflat r19 r34.2).getD p61.toNat 0) = (r19.getD p61.toNat 0))))) 22 (by kernel_rfl) (fun _ => by kernel_rfl) rfl hs85 ?_
         refine any_done (by kernel_rfl) ?_
         refine hK84 _ _ ?_
         refine W.cond (!decide (((vflat r19 r34.2).getD p61.toNat 0) = (r19.getD p61.toNat 0))) (by kernel_rfl) (fun h97 => ?_) (fun h97 => ?_)
         rotate_left
         ·
          have h97p : ((vflat r19 r34.2).getD p61.toNat 0) = (r19.getD p61.toNat 0) := of_decide_eq_true (bnot_false h97)
          replace hm := ite_yes hm h97p
          refine W.skip ?_
          refine normal_block ?_
          refine hK69 _ _ ?_
          refine W.region ?_
          refine zR 1 ?_
          obtain ⟨h98, hm⟩ := need_some hm
          refine zI _ (wrap_i64 h98.1 h98.2) ?_
          refine zE 1 ?_
          refine loopAt_next ?_
          exact ih63 (p61 + 1) _ _ ⟨slots_intro _ (by kernel_rfl), hs85⟩ hm
         ·
          have h97p : ¬ (((vflat r19 r34.2).getD p61.toNat 0) = (r19.getD p61.toNat 0)) := of_decide_eq_false (bnot_true h97)
          replace hm := ite_no hm h97p
          refine W.sr fun K99 hK99 => ?_
          refine zE 1 (hK99 _ _ ?_)
          refine W.ret (ret_block (ret_seq (ret_seq (ret_block (ret_seq ?_)))))
          have hs100 := St.tk0 hs85
          refine ret_of (.bool false) (by kernel_rfl) ⟨_, ⟨congrArg Value.bool (some_inj hm), rfl⟩, hs100⟩
       ·
        refine W.region ?_
        refine zR 4 ?_
        rcases Bool.eq_false_or_eq_true (decide (r76.2.1 = i_.tmod 4)) with h101 | h101
        ·
         obtain ⟨h101p, hm⟩ := iY hm h101
         refine zS 92 h101 ?_
         refine zS 91 h101 ?_
         refine zR 3 ?_
         rcases Bool.eq_false_or_eq_true (decide (r76.1 = 3)) with h102 | h102
         ·
          obtain ⟨h102p, hm⟩ := iY hm h102
          refine zS 95 h102 ?_
          refine zS 94 h102 ?_
          refine zR 4 ?_
          rcases Bool.eq_false_or_eq_true (decide (r76.2.2.2 = 0)) with h103 | h103
          ·
           obtain ⟨h103p, hm⟩ := iY hm h103
           refine zS 99 h103 ?_
           refine zS 97 h103 ?_
           refine zS 98 h103 ?_
           refine zE 5 ?_
           exact ⟨true, slots_intro _ (by kernel_rfl), hs80, hm⟩
          ·
           obtain ⟨h103p, hm⟩ := iN hm h103
           refine zS 99 h103 ?_
           refine zS 97 h103 ?_
           refine zS 98 h103 ?_
           refine zE 5 ?_
           exact ⟨(decide (r76.1 = 4)), slots_intro _ (by kernel_rfl), hs80, hm⟩
         ·
          obtain ⟨h102p, hm⟩ := iN hm h102
          refine zS 95 h102 ?_
          refine zS 94 h102 ?_
          refine zE 9 ?_
          exact ⟨(decide (r76.1 = 4)), slots_intro _ (by kernel_rfl), hs80, hm⟩
        ·
         obtain ⟨h101p, hm⟩ := iN hm h101
         refine zS 92 h101 ?_
         refine zS 91 h101 ?_
         refine zE 12 ?_
         exact ⟨false, slots_intro _ (by kernel_rfl), hs80, hm⟩
      ·
       obtain ⟨h68p, hm⟩ := iN hm h68
       refine W.exit (exit_seq (exit_seq (exit_here ?_)))
       refine hK59 _ _ ?_
       refine W.sr fun K104 hK104 => ?_
       obtain ⟨r105, h106, hm⟩ := bind_some hm
       refine zC00 hs65 (works10_walk (hG2 := hG2) (hL := (hs65.oldCells hL)) (hm := h106) B _) fun w107 hs109 => ?_
       refine zE 1 (hK104 _ _ ?_)
       refine W.ret ?_
       have hs110 := St.tk0 hs109
       refine ret_of (.bool r105) (by kernel_rfl) ⟨_, ⟨congrArg Value.bool (some_inj hm), rfl⟩, hs110⟩
     ·
      refine W.sr fun K111 hK111 => ?_
      refine zE 1 (hK111 _ _ ?_)
      refine W.block ?_
      have hs117 := St.f1 hs53
      have hs118 := St.f2 hs117
      have hs119 := St.f3 hs118
      refine W.loop_iter (G := Int) (σ := Int) (fun | p112 => p112) (fun | p112, s_, w_ => (∃ us, s_ = slots 128 [(5, (.slice a17 r19.length c18)), (6, (.pointer (some ⟨b25, 0, none⟩))), (7, (.int .i64 (i_.tmod 4))), (8, (.slice a41 ((vflat r19 r34.2).length) c42)), (9, (.int .i64 p112))] us) ∧ St B w [] w_ [kU64.row a17 c18 r19, viewA (ptr b25) r19 r34.2, kU64.row a41 c42 (vflat r19 r34.2), kWr.row a49 c50 r34.2]) 0 ⟨slots_intro _ (by kernel_rfl), hs119⟩ hm ?_
      rintro k113 ih114 p112 _ w115 ⟨⟨us, rfl⟩, hs116⟩ hm
      replace hm : slotwipes_B0 i_ r19 r34 k113 p112 = some true := hm
      unfold slotwipes_B0 at hm
      refine W.seq fun K120 hK120 => ?_
      refine W.sr fun K121 hK121 => ?_
      refine zE 2 (hK121 _ _ ?_)
      refine W.cond (decide (p112 < 4)) (by kernel_rfl) (fun h122 => ?_) (fun h122 => ?_)
      ·
       obtain ⟨h122p, hm⟩ := iY hm h122
       refine W.skip ?_
       refine hK120 _ _ ?_
       refine W.seq fun K123 hK123 => ?_
       refine W.block ?_
       refine W.sr fun K124 hK124 => ?_
       refine zR 3 ?_
       obtain ⟨r125, h126, hm⟩ := bind_some hm
       refine zC00 hs116 (sload_walk (i_ := i_.tmod 4) (k_ := p112) (img := r19) (l := r34.2) (hL := (hs116.oldCells hL)) (hv := (hs116.entAt 1 rfl viewA_at)) (hm := h126) B _) fun w127 hs129 => ?_
       refine zR 4 ?_
       refine zN [(.int .i64 0), (.int .u64 0), (.int .u64 0), (.string ByteArray.empty)] 46 hs129 fun b132 w130 hs131 => ?_
       refine zR 1 ?_
       refine ops_store (off := 0) (cs := [(.int .i64 0), (.int .u64 0), (.int .u64 0), (.string ByteArray.empty)]) (vs := [(.int .i64 r125.2.1), (.int .u64 r125.2.2.1), (.int .u64 r125.2.2.2.1), (.string r125.2.2.2.2.1)]) hs131 (by kernel_rfl) (by simp) rfl (fun w133 hs134 => ?_)
       have hs135 : St B w [] w133 [blk b132 (.cells [(.int .i64 r125.2.1), (.int .u64 r125.2.2.1), (.int .u64 r125.2.2.2.1), (.string r125.2.2.2.2.1)].toArray 46 (0, 0)), kU64.row a17 c18 r19, viewA (ptr b25) r19 r34.2, kU64.row a41 c42 (vflat r19 r34.2), kWr.row a49 c50 r34.2] := hs134
       refine zE 1 (hK124 _ _ ?_)
       refine W.sr fun K136 hK136 => ?_
       refine zR 3 ?_
       rcases Bool.eq_false_or_eq_true (!decide (r125.1 = 0)) with h137 | h137
       rotate_left
       ·
        have h137p : r125.1 = 0 := of_decide_eq_true (bnot_false h137)
        replace hm := ite_yes hm h137p
        refine zS 66 h137 ?_
        refine zS 65 h137 ?_
        refine ops_R (runs_loadAgg (ad := ⟨b132, 0, none⟩) (cs := [(.int .i64 r125.2.1), (.int .u64 r125.2.2.1), (.int .u64 r125.2.2.2.1), (.string r125.2.2.2.2.1)]) (by kernel_rfl) (cells_sub (hs135.heapAt 0 rfl) rfl)) ?_
        refine zR 1 ?_
        refine ops_R (v := (.bool (!((decide (r125.2.1 = 0)) && ((decide (r125.2.2.1 = 0)) && ((decide (r125.2.2.2.1 = 0)) && ((r125.2.2.2.2.1 == ByteArray.empty) && true))))))) (runs_eq (b := !((decide (r125.2.1 = 0)) && ((decide (r125.2.2.1 = 0)) && ((decide (r125.2.2.2.1 = 0)) && ((r125.2.2.2.2.1 == ByteArray.empty) && true))))) (by kernel_rfl)) ?_
        refine zR 2 ?_
        rcases Bool.eq_false_or_eq_true (!((decide (r125.2.1 = 0)) && ((decide (r125.2.2.1 = 0)) && ((decide (r125.2.2.2.1 = 0)) && ((r125.2.2.2.2.1 == ByteArray.empty) && true))))) with h138 | h138
        rotate_left
        ·
         have h138p : r125.2.1 = 0 ∧ r125.2.2.1 = 0 ∧ r125.2.2.2.1 = 0 ∧ r125.2.2.2.2.1 = ByteArray.empty := by simpa using (bnot_false h138)
         replace hm := ite_yes hm h138p
         refine zS 71 h138 ?_
         refine zS 69 h138 ?_
         refine zS 70 h138 ?_
         refine zE 3 (hK136 _ _ ?_)
         refine W.cond (!decide (r125.2.2.2.2.2 = 0)) (by kernel_rfl) (fun h139 => ?_) (fun h139 => ?_)
         rotate_left
         ·
          have h139p : r125.2.2.2.2.2 = 0 := of_decide_eq_true (bnot_false h139)
          replace hm := ite_yes hm h139p
          refine W.skip ?_
          refine normal_block ?_
          refine hK123 _ _ ?_
          refine W.region ?_
          refine zR 1 ?_
          obtain ⟨h140, hm⟩ := need_some hm
          refine zI _ (wrap_i64 h140.1 h140.2) ?_
          refine zE 1 ?_
          have hs141 := St.f4 hs135
          have hs142 := St.f4 hs141
          have hs143 := St.f4 hs142
          have hs144 := St.f4 hs143
          have hs145 := St.tk4 hs144
          refine loopAt_next ?_
          exact ih114 (p112 + 1) _ _ ⟨slots_intro _ (by kernel_rfl), hs145⟩ hm
         ·
          have h139p : ¬ (r125.2.2.2.2.2 = 0) := of_decide_eq_false (bnot_true h139)
          replace hm := ite_no hm h139p
          refine W.sr fun K146 hK146 => ?_
          refine zE 1 (hK146 _ _ ?_)
          refine W.ret (ret_block (ret_seq (ret_seq (ret_block (ret_seq ?_)))))
          have hs147 := St.tk0 hs135
          refine ret_of (.bool false) (by kernel_rfl) ⟨_, ⟨congrArg Value.bool (some_inj hm), rfl⟩, hs147⟩
        ·
         have h138p : ¬ (r125.2.1 = 0 ∧ r125.2.2.1 = 0 ∧ r125.2.2.2.1 = 0 ∧ r125.2.2.2.2.1 = ByteArray.empty) := by simpa using (bnot_true h138)
         replace hm := ite_no hm h138p
         refine zS 71 h138 ?_
         refine zS 69 h138 ?_
         refine zS 70 h138 ?_
         refine zE 3 (hK136 _ _ ?_)
         refine W.cond_true true (by kernel_rfl) rfl ?_
         refine W.sr fun K148 hK148 => ?_
         refine zE 1 (hK148 _ _ ?_)
         refine W.ret (ret_block (ret_seq (ret_seq (ret_block (ret_seq ?_)))))
         have hs149 := St.tk0 hs135
         refine ret_of (.bool false) (by kernel_rfl) ⟨_, ⟨congrArg Value.bool (some_inj hm), rfl⟩, hs149⟩
       ·
        have h137p : ¬ (r125.1 = 0) := of_decide_eq_false (bnot_true h137)
        replace hm := ite_no hm h137p
        refine zS 66 h137 ?_
        refine zS 65 h137 ?_
        refine zE 8 (hK136 _ _ ?_)
        refine W.cond_true true (by kernel_rfl) rfl ?_
        refine W.sr fun K150 hK150 => ?_
        refine zE 1 (hK150 _ _ ?_)
        refine W.ret (ret_block (ret_seq (ret_seq (ret_block (ret_seq ?_)))))
        have hs151 := St.tk0 hs135
        refine ret_of (.bool false) (by kernel_rfl) ⟨_, ⟨congrArg Value.bool (some_inj hm), rfl⟩, hs151⟩
      ·
       obtain ⟨h122p, hm⟩ := iN hm h122
       refine W.exit (exit_seq (exit_seq (exit_here ?_)))
       have hs152 := St.f1 hs116
       have hs153 := St.f3 hs152
       have hs154 := St.f3 hs153
       have hs155 := St.f3 hs154
       exact ⟨slots_intro _ (by kernel_rfl), hs155, hm⟩
   ·
    have h48p : ¬ ((((vflat r19 r34.2).length) : Int) = (r19.length : Int)) := of_decide_eq_false (bnot_true h48)
    replace hm := ite_no hm h48p
    refine zS 46 h48 ?_
    refine zS 45 h48 ?_
    refine zE 5 (hK47 _ _ ?_)
    refine W.cond_true true (by kernel_rfl) rfl ?_
    refine W.sr fun K156 hK156 => ?_
    refine zE 1 (hK156 _ _ ?_)
    refine W.ret (ret_seq ?_)
    have hs157 := St.tk0 hs45
    refine ret_of (.bool false) (by kernel_rfl) ⟨_, ⟨congrArg Value.bool (some_inj hm), rfl⟩, hs157⟩
  ·
   have h39p : ¬ (r34.1 = 0) := of_decide_eq_false (bnot_true h39)
   replace hm := ite_no hm h39p
   refine W.sr fun K158 hK158 => ?_
   refine zE 1 (hK158 _ _ ?_)
   refine W.ret (ret_seq ?_)
   have hs159 := St.tk0 hs38
   refine ret_of (.bool false) (by kernel_rfl) ⟨_, ⟨congrArg Value.bool (some_inj hm), rfl⟩, hs159⟩

end Go.Proofs.YthimamnblklkbaaDoor

namespace Go.Proofs.YthimamnblklkbaaDoor
open Go Go.RowKit
set_option linter.unusedVariables false
set_option linter.unusedSimpArgs false

def ownW (s j : Nat) : Bool := match rwhere_M 1 (2 + 0 % 20) (2 + 0 % 60) (j : Int) with
  | some r => (decide (r.2.1 = (s : Int)) && ((decide (r.1 = 3) && decide (r.2.2.2 = 0)) || decide (r.1 = 4))) == (wipeL (s : Int)).any (fun p => decide (p.1 = (j : Int)))
  | none => false
set_option maxRecDepth 100000 in
set_option maxHeartbeats 4000000 in
theorem own_tab : ∀ s : Nat, s < 4 → ∀ j : Nat, j < 536 → ownW s j = true := by decide +kernel
theorem own_at {s j : Nat} (hs : s < 4) (hj : j < 536) : ∃ r, rwhere_M 1 (2 + 0 % 20) (2 + 0 % 60) (j : Int) = some r ∧ ((r.2.1 = (s : Int) ∧ ((r.1 = 3 ∧ r.2.2.2 = 0) ∨ r.1 = 4)) ↔ ∃ p ∈ wipeL (s : Int), p.1 = (j : Int)) := by
  have h := own_tab s hs j hj
  unfold ownW at h
  cases hr : rwhere_M 1 (2 + 0 % 20) (2 + 0 % 60) (j : Int) with
  | none => rw [hr] at h; cases h
  | some r =>
    rw [hr] at h
    refine ⟨r, rfl, ?_⟩
    simp only [beq_iff_eq] at h
    have h2 := Bool.eq_iff_iff.1 h
    simpa [List.any_eq_true] using h2
theorem slotwipes_law {ts : List TTn} {i_ : Int} (hi : 0 ≤ i_ ∧ i_ ≤ 255) (ht : ∀ x ∈ ts, good_Tn x) : slotwipes_M ts i_ = some true := by
  refine Ok.true ?_
  have hs4 := Int.tmod_eq_emod_of_nonneg (b := 4) hi.1
  obtain ⟨s, hs⟩ := Int.eq_ofNat_of_zero_le (show 0 ≤ i_.tmod 4 by omega)
  have hsl : s < 4 := by omega
  unfold slotwipes_M
  refine Ok.ite (fun _ => works10_stop) fun h40 => ?_
  refine Ok.need (by omega) (Ok.need (by omega) ?_)
  refine Ok.bind (image_least ht (by omega)) fun ws hws => ?_
  obtain ⟨hwl, hwu⟩ := hws
  have hJ := VJ.start hwu (by omega)
  refine Ok.need (by omega) (Ok.need (by omega) ?_)
  rw [swipe_eq, hs]
  simp only [Option.bind]
  have h0 : ∀ k : Int, 0 ≤ k ∧ k < 4 → thereF ws (s : Int) k = 0 := fun k hk => thereF_in (by omega) hk (by omega)
  have hz := thereF_zero (h0 0 (by omega))
  have hin := wipeL_in (i := (s : Int)) (by omega)
  obtain ⟨m, e, hm, hlen, hg⟩ := vsets_in (wipeL (s : Int)) [] hJ (fun p hp => ⟨by have := hin p hp; omega, by rw [(hin p hp).2]; exact u64_zero⟩) (by simp [wipeL])
  have ew : wipeF ws [] (s : Int) = (0, m) := by unfold wipeF; rw [if_pos (h0 0 (by omega)), e]
  rw [ew]
  have hfl := vflat_length ws m
  have hl12 : m.length ≤ 12 := by simpa [wipeL] using hlen
  have zero : ∀ j : Int, (∃ p ∈ wipeL (s : Int), p.1 = j) → vget ws m j = 0 := fun j hj => by
    rw [hg]
    exact said_mem hj fun p hp _ => (hin p hp).2
  have same : ∀ j : Int, ¬ (∃ p ∈ wipeL (s : Int), p.1 = j) → vget ws m j = vget ws [] j := fun j hj => by
    rw [hg]
    exact said_out fun p hp e' => hj ⟨p, hp, e'.symm⟩
  refine Ok.yes (by simp) (Ok.yes (show ((vflat ws m).length : Int) = _ by omega) (Ok.no (show ¬ (m.length : Int) > 12 by omega) ?_))
  have J1 : Ok (· = true) (slotwipes_J1 i_ ws (0, m)) := by
    unfold slotwipes_J1
    refine Ok.iter (fun p => 0 ≤ p) (fun p => ((ws.length : Int) - p).toNat) ?_ _ _ (by omega) (fuel_lt (by omega))
    intro k p h1 ih
    unfold slotwipes_B1
    refine Ok.ite (fun hp => ?_) (fun _ => works10_stop)
    obtain ⟨r, er, hr⟩ := own_at (s := s) (j := p.toNat) hsl (by omega)
    rw [show ((p.toNat : Nat) : Int) = p by omega] at er hr
    refine Ok.need (by omega) (Ok.need (by omega) ?_)
    rw [er, hs]
    simp only [Option.bind]
    have J3 : ∀ b : Bool, (b = true ↔ ∃ q ∈ wipeL (s : Int), q.1 = p) → Ok (· = true) (slotwipes_J3 ws (0, m) k p b) := by
      intro b hb
      unfold slotwipes_J3
      simp only
      refine Ok.ite (fun h => ?_) (fun h => ?_)
      · exact Ok.need (by omega) (Ok.yes (by rw [flat_at hm.2 (by omega)]; exact zero p (hb.1 h)) (Ok.need (by omega) (ih _ (by omega) (by omega))))
      · exact Ok.need (by omega) (Ok.need (by omega) (Ok.yes (by rw [flat_at hm.2 (by omega), img_at (by omega)]; exact same p (fun h' => h (hb.2 h'))) (Ok.need (by omega) (ih _ (by omega) (by omega)))))
    refine Ok.ite (fun c1 => ?_) (fun c1 => ?_)
    · refine Ok.ite (fun c2 => ?_) (fun c2 => ?_)
      · refine Ok.ite (fun c3 => J3 _ ⟨fun _ => hr.1 ⟨c1, .inl ⟨c2, c3⟩⟩, fun _ => rfl⟩) (fun c3 => J3 _ ?_)
        rw [decide_eq_true_iff, ← hr]
        exact ⟨fun h => ⟨c1, .inr h⟩, fun h => h.2.resolve_left fun h' => c3 h'.2⟩
      · refine J3 _ ?_
        rw [decide_eq_true_iff, ← hr]
        exact ⟨fun h => ⟨c1, .inr h⟩, fun h => h.2.resolve_left fun h' => c2 h'.1⟩
    · exact J3 _ ⟨fun h => absurd h (by decide), fun h => absurd (hr.2 h).1 c1⟩
  refine Ok.iter (fun p => 0 ≤ p) (fun p => (4 - p).toNat) ?_ _ _ (by omega) (fuel_lt (by omega))
  intro k p h1 ih
  unfold slotwipes_B0
  refine Ok.ite (fun hp => ?_) (fun _ => J1)
  simp only
  rw [hs, sload_eq hm.1]
  simp only [Option.bind]
  have hslot : vget ws m (slotAt (s : Int) p) = 0 := by
    refine zero _ ⟨(slotAt (s : Int) p, 0), ?_, rfl⟩
    have : p = 0 ∨ p = 1 ∨ p = 2 ∨ p = 3 := by omega
    unfold wipeL
    rcases this with rfl | rfl | rfl | rfl <;> simp
  have hload : loadF ws m (s : Int) p = (0, 0, 0, 0, ByteArray.empty, 0) := by
    unfold loadF
    rw [if_pos (h0 p ⟨h1, hp⟩), if_pos hslot]
  rw [hload]
  exact Ok.yes rfl (Ok.yes ⟨rfl, rfl, rfl, rfl⟩ (Ok.yes rfl (Ok.need (by omega) (ih _ (by omega) (by omega)))))
end Go.Proofs.YthimamnblklkbaaDoor
