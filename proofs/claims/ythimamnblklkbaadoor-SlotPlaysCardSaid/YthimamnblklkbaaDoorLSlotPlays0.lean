/- Texts, one behind the other: A0x, ALsPl, PLsPl. -/
import Derived.Test.YthimamnblklkbaaDoorQSN4
set_option linter.unusedVariables false
set_option linter.unusedSimpArgs false
set_option linter.unusedVariables false
set_option maxRecDepth 20000
namespace Go.Proofs.YthimamnblklkbaaDoor
open Go Go.RowKit
set_option linter.unusedSimpArgs false
set_option linter.unusedVariables false

def great10_B0 (ss : List TSt10) (k9 : Int → Option (Bool)) (p8 : Int) : Option (Bool) :=
 if p8 < (ss.length : Int) then (need (0 ≤ p8 ∧ p8 < (ss.length : Int)) <|
if ((ss.getD p8.toNat dSt10).c10.size : Int) > 1000 then (some true) else (need (-9223372036854775808 ≤ (p8 + 1) ∧ (p8 + 1) ≤ 9223372036854775807) <|
k9 (p8 + 1))) else (some false)

def great10_M (ss : List TSt10) : Option (Bool) :=
 if (ss.length : Int) > 60 then (some true) else (iter (fun k_ s_ => great10_B0 ss k_ s_) FUEL 0)

theorem great10_walk {ss : List TSt10} {sa : Option Addr} {sc : Nat} {r : Bool} (B : Nat) (w : World) (hst : CellsAt sa (kSt10.cells ss) w) (hm : great10_M ss = some r) : Spec Tryd.prog 37 #[(.slice sa ss.length sc)] B w [] (fun v H' => v = .bool r ∧ H' = []) := by
 refine spec_Q Tryd.func37 rfl fun hs => ?_
 unfold great10_M at hm
 refine W.sr fun K1 hK1 => ?_
 refine zE 1 (hK1 _ _ ?_)
 refine W.seq fun K2 hK2 => ?_
 refine W.sr fun K3 hK3 => ?_
 refine zE 3 (hK3 _ _ ?_)
 refine W.cond (decide ((ss.length : Int) > 60)) (by kernel_rfl) (fun h4 => ?_) (fun h4 => ?_)
 ·
  obtain ⟨h4p, hm⟩ := iY hm h4
  refine W.sr fun K5 hK5 => ?_
  refine zE 1 (hK5 _ _ ?_)
  refine W.ret (ret_seq ?_)
  obtain rfl := some_inj hm
  refine ret_of (.bool true) (by kernel_rfl) ⟨_, ⟨rfl, rfl⟩, hs⟩
 ·
  obtain ⟨h4p, hm⟩ := iN hm h4
  refine W.skip ?_
  refine hK2 _ _ ?_
  refine W.seq fun K6 hK6 => ?_
  refine W.sr fun K7 hK7 => ?_
  refine zE 1 (hK7 _ _ ?_)
  refine W.block ?_
  refine W.loop_iter (G := Int) (σ := Int) (fun | p8 => p8) (fun | p8, s_, w_ => (∃ us, s_ = slots 21 [(0, (.slice sa ss.length sc)), (3, (.int .i64 p8))] us) ∧ St B w [] w_ []) 0 ⟨slots_intro _ (by kernel_rfl), hs⟩ hm ?_
  rintro k9 ih10 p8 _ w11 ⟨⟨us, rfl⟩, hs12⟩ hm
  replace hm : great10_B0 ss k9 p8 = some r := hm
  unfold great10_B0 at hm
  refine W.seq fun K13 hK13 => ?_
  refine W.sr fun K14 hK14 => ?_
  refine zE 4 (hK14 _ _ ?_)
  refine W.cond (decide (p8 < (ss.length : Int))) (by kernel_rfl) (fun h15 => ?_) (fun h15 => ?_)
  ·
   obtain ⟨h15p, hm⟩ := iY hm h15
   refine W.skip ?_
   refine hK13 _ _ ?_
   refine W.seq fun K16 hK16 => ?_
   refine W.block ?_
   refine W.sr fun K17 hK17 => ?_
   refine zR 2 ?_
   obtain ⟨h19, hm⟩ := need_some hm
   have hk18 := lt_toNat h19
   refine ops_R (runs_index (a := sa) (n := ss.length) (z := p8) (size := 12) p8.toNat (nat_of h19.1) hk18 (kSt10.addr (hs12.oldCells hst) hk18) (by kernel_rfl)) ?_
   refine zR 2 ?_
   refine zL ((adr sa (p8.toNat * 12)).add 10) (.string ((ss.getD p8.toNat dSt10).c10)) (kSt10.at (hs12.oldCells hst) hk18 dSt10 10 rfl) ?_
   refine zE 2 (hK17 _ _ ?_)
   refine W.cond (decide (((ss.getD p8.toNat dSt10).c10.size : Int) > 1000)) (by kernel_rfl) (fun h20 => ?_) (fun h20 => ?_)
   ·
    obtain ⟨h20p, hm⟩ := iY hm h20
    refine W.sr fun K21 hK21 => ?_
    refine zE 1 (hK21 _ _ ?_)
    refine W.ret (ret_block (ret_seq (ret_seq (ret_block (ret_seq ?_)))))
    obtain rfl := some_inj hm
    refine ret_of (.bool true) (by kernel_rfl) ⟨_, ⟨rfl, rfl⟩, hs12⟩
   ·
    obtain ⟨h20p, hm⟩ := iN hm h20
    refine W.skip ?_
    refine normal_block ?_
    refine hK16 _ _ ?_
    refine W.region ?_
    refine zR 1 ?_
    obtain ⟨h22, hm⟩ := need_some hm
    refine zI _ (wrap_i64 h22.1 h22.2) ?_
    refine zE 1 ?_
    refine loopAt_next ?_
    exact ih10 (p8 + 1) _ _ ⟨slots_intro _ (by kernel_rfl), hs12⟩ hm
  ·
   obtain ⟨h15p, hm⟩ := iN hm h15
   refine W.exit (exit_seq (exit_seq (exit_here ?_)))
   refine hK6 _ _ ?_
   refine W.sr fun K23 hK23 => ?_
   refine zE 1 (hK23 _ _ ?_)
   refine W.ret ?_
   obtain rfl := some_inj hm
   refine ret_of (.bool false) (by kernel_rfl) ⟨_, ⟨rfl, rfl⟩, hs12⟩

end Go.Proofs.YthimamnblklkbaaDoor

set_option linter.unusedVariables false
set_option maxRecDepth 20000
set_option maxHeartbeats 4000000
namespace Go.Proofs.YthimamnblklkbaaDoor
open Go Go.RowKit
set_option linter.unusedSimpArgs false
set_option linter.unusedVariables false

def slotplays_J1 (l50 : List (Int × Int)) (l51 : List (Int × Int)) : Option (Bool) :=
 need (l50.length ≤ 9223372036854775806) <|
if l50 = l51 then ((works10_M).bind fun r88 =>
some r88) else (some false)

def slotplays_J4 (k119 : ((List (Int × Int)) × (List (Int × Int)) × Int) → Option (Bool)) (p118 : Int) (l155 : List (Int × Int)) (l156 : List (Int × Int)) (p157 : Bool) : Option (Bool) :=
 if p157 = true then (need (-9223372036854775808 ≤ (p118 + 1) ∧ (p118 + 1) ≤ 9223372036854775807) <|
k119 (l155, l156, (p118 + 1))) else (some false)

def slotplays_J3 (ss : List TSt10) (r31 : List Int) (k119 : ((List (Int × Int)) × (List (Int × Int)) × Int) → Option (Bool)) (p118 : Int) (l139 : List (Int × Int)) (l140 : List (Int × Int)) : Option (Bool) :=
 (smay10_M ((ss.getD p118.toNat dSt10).c7) ((ss.getD p118.toNat dSt10).c10)).bind fun r145 =>
(rmay10_M ((ss.getD p118.toNat dSt10).c7) ((ss.getD p118.toNat dSt10).c10)).bind fun r150 =>
if ((ss.getD p118.toNat dSt10).c0).tmod 6 = 0 then ((sget_M r31 l139 ((ss.getD p118.toNat dSt10).c1)).bind fun r173 =>
(rget10_M r31 l140 ((ss.getD p118.toNat dSt10).c1)).bind fun r185 =>
if ((r145 = true) ↔ (r150 = true)) then (if r173.2.2.2 = r185.2.2.2 then (slotplays_J4 k119 p118 l139 l140 ((r173.1 == r185.1) && ((decide (r173.2.1 = r185.2.1)) && ((decide (r173.2.2.1 = r185.2.2.1)) && true)))) else (slotplays_J4 k119 p118 l139 l140 false)) else (slotplays_J4 k119 p118 l139 l140 false)) else (if ((ss.getD p118.toNat dSt10).c0).tmod 6 = 1 then (if ((r145 = true) ↔ (r150 = true)) then ((sput_M r31 l139 ((ss.getD p118.toNat dSt10).c1) ((ss.getD p118.toNat dSt10).c3) ((ss.getD p118.toNat dSt10).c4) ((ss.getD p118.toNat dSt10).c5)).bind fun r220 =>
(rput10_M r31 l140 ((ss.getD p118.toNat dSt10).c1) ((ss.getD p118.toNat dSt10).c3) ((ss.getD p118.toNat dSt10).c4) ((ss.getD p118.toNat dSt10).c5)).bind fun r228 =>
slotplays_J4 k119 p118 r220.2 r228.2 (decide (r220.1 = r228.1))) else (slotplays_J4 k119 p118 l139 l140 false)) else (if ((ss.getD p118.toNat dSt10).c0).tmod 6 = 2 then ((sload_M r31 l139 ((ss.getD p118.toNat dSt10).c1) ((ss.getD p118.toNat dSt10).c2)).bind fun r244 =>
(rload_M r31 l140 ((ss.getD p118.toNat dSt10).c1) ((ss.getD p118.toNat dSt10).c2)).bind fun r256 =>
if ((r145 = true) ↔ (r150 = true)) then (if r244.1 = r256.1 then (if r244.2.1 = r256.2.1 ∧ r244.2.2.1 = r256.2.2.1 ∧ r244.2.2.2.1 = r256.2.2.2.1 ∧ r244.2.2.2.2.1 = r256.2.2.2.2.1 then (slotplays_J4 k119 p118 l139 l140 (decide (r244.2.2.2.2.2 = r256.2.2.2.2.2))) else (slotplays_J4 k119 p118 l139 l140 false)) else (slotplays_J4 k119 p118 l139 l140 false)) else (slotplays_J4 k119 p118 l139 l140 false)) else (if ((ss.getD p118.toNat dSt10).c0).tmod 6 = 3 then (if ((r145 = true) ↔ (r150 = true)) then ((ssave_M r31 l139 ((ss.getD p118.toNat dSt10).c1) ((ss.getD p118.toNat dSt10).c2) ((ss.getD p118.toNat dSt10).c6) ((ss.getD p118.toNat dSt10).c7) ((ss.getD p118.toNat dSt10).c8) ((ss.getD p118.toNat dSt10).c9) ((ss.getD p118.toNat dSt10).c10)).bind fun r297 =>
(rsave_M r31 l140 ((ss.getD p118.toNat dSt10).c1) ((ss.getD p118.toNat dSt10).c2) ((ss.getD p118.toNat dSt10).c6) ((ss.getD p118.toNat dSt10).c7) ((ss.getD p118.toNat dSt10).c8) ((ss.getD p118.toNat dSt10).c9) ((ss.getD p118.toNat dSt10).c10)).bind fun r305 =>
slotplays_J4 k119 p118 r297.2 r305.2 (decide (r297.1 = r305.1))) else (slotplays_J4 k119 p118 l139 l140 false)) else (if ((ss.getD p118.toNat dSt10).c0).tmod 6 = 4 then (if ((r145 = true) ↔ (r150 = true)) then ((swipe_M r31 l139 ((ss.getD p118.toNat dSt10).c1)).bind fun r325 =>
(rwipe10_M r31 l140 ((ss.getD p118.toNat dSt10).c1)).bind fun r333 =>
slotplays_J4 k119 p118 r325.2 r333.2 (decide (r325.1 = r333.1))) else (slotplays_J4 k119 p118 l139 l140 false)) else (if ((r145 = true) ↔ (r150 = true)) then (slotplays_J4 k119 p118 ((vwrite r31 l139 ((ss.getD p118.toNat dSt10).c2) ((ss.getD p118.toNat dSt10).c6)).2) ((vwrite r31 l140 ((ss.getD p118.toNat dSt10).c2) ((ss.getD p118.toNat dSt10).c6)).2) (decide ((vwrite r31 l139 ((ss.getD p118.toNat dSt10).c2) ((ss.getD p118.toNat dSt10).c6)).1 = (vwrite r31 l140 ((ss.getD p118.toNat dSt10).c2) ((ss.getD p118.toNat dSt10).c6)).1))) else (slotplays_J4 k119 p118 l139 l140 false))))))

def slotplays_B0 (ss : List TSt10) (r31 : List Int) (k119 : ((List (Int × Int)) × (List (Int × Int)) × Int) → Option (Bool)) (l116 : List (Int × Int)) (l117 : List (Int × Int)) (p118 : Int) : Option (Bool) :=
 if p118 < (ss.length : Int) then (need (0 ≤ p118 ∧ p118 < (ss.length : Int)) <|
if ((ss.getD p118.toNat dSt10).c11) = true then (slotplays_J3 ss r31 k119 p118 ([]) ([])) else (slotplays_J3 ss r31 k119 p118 l116 l117)) else (slotplays_J1 l116 l117)

def slotplays_M (ts : List TTn) (cut_ : Int) (ss : List TSt10) : Option (Bool) :=
 if (ts.length : Int) > 40 then ((works10_M).bind fun r6 =>
some r6) else ((great10_M ss).bind fun r11 =>
if r11 = true then ((works10_M).bind fun r18 =>
some r18) else (need ((0 : Int) ≤ 0 ∧ (0 : Int) ≤ 255) <|
need ((0 : Int) ≤ 0 ∧ (0 : Int) ≤ 255) <|
(image_M 1 (2 + 0 % 20) (2 + 0 % 60) ts cut_).bind fun r31 =>
need (r31.length ≤ 17592186044415) <|
need (r31.length ≤ 17592186044415) <|
iter (fun k_ s_ => slotplays_B0 ss r31 k_ s_.1 s_.2.1 s_.2.2) FUEL ([], [], 0)))

theorem slotplays_walk {ts : List TTn} {cut_ : Int} {ss : List TSt10} {ta : Option Addr} {tc : Nat} {sa : Option Addr} {sc : Nat}  (B : Nat) (w : World) (hB : w.heap.size = B) (hL : CellsAt (some ⟨1, 0, none⟩) [(.int .i64 1), (.int .i64 2), (.int .i64 2)] w) (ht : CellsAt ta (kTn.cells ts) w) (hst : CellsAt sa (kSt10.cells ss) w) (hm : slotplays_M ts cut_ ss = some true) : Spec Tryd.prog 8 #[(.slice ta ts.length tc), (.int .u16 cut_), (.slice sa ss.length sc)] B w [] (fun v H' => v = .bool true ∧ H' = []) := by
 refine spec_Q Tryd.func8 rfl fun hs => ?_
 unfold slotplays_M at hm
 have hG2 : 1 < B := by rw [← hB]; exact lt_of_cells hL (v := .int .i64 1) rfl
 refine W.sr fun K1 hK1 => ?_
 refine zE 1 (hK1 _ _ ?_)
 refine W.seq fun K2 hK2 => ?_
 refine W.sr fun K3 hK3 => ?_
 refine zR 4 ?_
 rcases Bool.eq_false_or_eq_true (decide ((ts.length : Int) > 40)) with h4 | h4
 ·
  obtain ⟨h4p, hm⟩ := iY hm h4
  refine zS 26 h4 ?_
  refine zS 25 h4 ?_
  refine zE 3 (hK3 _ _ ?_)
  refine W.cond_true true (by kernel_rfl) rfl ?_
  refine W.sr fun K5 hK5 => ?_
  obtain ⟨r6, h7, hm⟩ := bind_some hm
  refine zC00 hs (works10_walk (hG2 := hG2) (hL := (hs.oldCells hL)) (hm := h7) B _) fun w8 hs10 => ?_
  refine zE 1 (hK5 _ _ ?_)
  refine W.ret (ret_seq ?_)
  refine ret_of (.bool r6) (by kernel_rfl) ⟨_, ⟨congrArg Value.bool (some_inj hm), rfl⟩, hs10⟩
 ·
  obtain ⟨h4p, hm⟩ := iN hm h4
  refine zS 26 h4 ?_
  refine zS 25 h4 ?_
  refine zR 1 ?_
  obtain ⟨r11, h12, hm⟩ := bind_some hm
  refine zC00 hs (great10_walk (sc := sc) (hst := (hs.oldCells hst)) (hm := h12) B _) fun w13 hs15 => ?_
  refine zE 1 (hK3 _ _ ?_)
  refine W.cond r11 (by kernel_rfl) (fun h16 => ?_) (fun h16 => ?_)
  ·
   have h16p : r11 = true := h16
   replace hm := ite_yes hm h16p
   refine W.sr fun K17 hK17 => ?_
   obtain ⟨r18, h19, hm⟩ := bind_some hm
   refine zC00 hs15 (works10_walk (hG2 := hG2) (hL := (hs15.oldCells hL)) (hm := h19) B _) fun w20 hs22 => ?_
   refine zE 1 (hK17 _ _ ?_)
   refine W.ret (ret_seq ?_)
   refine ret_of (.bool r18) (by kernel_rfl) ⟨_, ⟨congrArg Value.bool (some_inj hm), rfl⟩, hs22⟩
  ·
   have h16p : ¬ (r11 = true) := ne_true_of_eq_false h16
   replace hm := ite_no hm h16p
   refine W.skip ?_
   refine hK2 _ _ ?_
   refine W.sr fun K23 hK23 => ?_
   obtain ⟨h24, hm⟩ := need_some hm
   obtain ⟨h25, hm⟩ := need_some hm
   refine zC00 hs15 (small_spec (x_ := 0) (y_ := 0) (hx := h24) (hy := h25) B _) fun w26 hs28 => ?_
   refine zR 2 ?_
   obtain ⟨r31, h32, hm⟩ := bind_some hm
   refine ops_call0 hs28 (by kernel_rfl) (image_walk (tc := tc) (ht := (hs28.oldCells ht)) (hm := h32) B _) ?_
   rintro _ _ w33 ⟨a29, c30, rfl, rfl⟩ hs34
   have hs35 := St.ap1 hs34
   refine zE 1 (hK23 _ _ ?_)
   refine W.sr fun K36 hK36 => ?_
   refine zR 1 ?_
   obtain ⟨h38, hm⟩ := need_some hm
   refine ops_call0 hs35 (by kernel_rfl) (new_spec (hc := (St.kcells kU64 hs35 0 rfl)) (hn := (St.capnil kU64 hs35 0 rfl)) (hsz := h38) B _) ?_
   rintro _ _ w39 ⟨b37, rfl, rfl⟩ hs40
   have hs41 := St.ap1 hs40
   refine zE 1 (hK36 _ _ ?_)
   refine W.sr fun K42 hK42 => ?_
   refine zR 1 ?_
   obtain ⟨h44, hm⟩ := need_some hm
   refine ops_call0 hs41 (by kernel_rfl) (rnew_spec (hc := (St.kcells kU64 hs41 1 rfl)) (hn := (St.capnil kU64 hs41 1 rfl)) (hsz := h44) B _) ?_
   rintro _ _ w45 ⟨b43, rfl, rfl⟩ hs46
   have hs47 := St.ap1 hs46
   refine zE 1 (hK42 _ _ ?_)
   refine W.seq fun K48 hK48 => ?_
   refine W.sr fun K49 hK49 => ?_
   refine zE 2 (hK49 _ _ ?_)
   refine W.cond_false false (by kernel_rfl) rfl ?_
   refine W.skip ?_
   refine hK48 _ _ ?_
   refine W.seq_join (fun s_ w_ => ∃ (l50 : List (Int × Int)) (l51 : List (Int × Int)), (∃ us, s_ = slots 219 [(8, (.pointer (some ⟨b37, 0, none⟩))), (9, (.pointer (some ⟨b43, 0, none⟩)))] us) ∧ St B w [] w_ [viewA (ptr b37) r31 l50, refA (ptr b43) r31 l51, kU64.row a29 c30 r31] ∧ slotplays_J1 l50 l51 = some true) ?_ ?_
   ·
    rintro _ w52 ⟨l50, l51, ⟨us, rfl⟩, hs53, hm⟩
    unfold slotplays_J1 at hm
    refine W.seq fun K54 hK54 => ?_
    have hs55 := St.f1 hs53
    obtain ⟨⟨_, ia56, ic57, la58, lc59, mn60⟩, ⟨ex61, hok62⟩, hs63⟩ := St.open hs55
    have hs64 : St B w [] w52 [blk b43 (.cells [(.slice ia56 r31.length ic57), (.slice la58 l51.length lc59), (.bool mn60)].toArray 71 (0, 0)), kU64.row ia56 ic57 r31, kWr.row la58 lc59 l51, viewA (ptr b37) r31 l50, kU64.row a29 c30 r31] := by cases ex61; exact hs63
    have := hok62.many
    have hs65 := hs64.drew
    refine W.regionD [(0, 0), (1, 1), (0, 0), (4, 4), (8, 8), (16, 16), (34, 34), (64, 64), (128, 128), (384, 384), (1023, 512)] (fun w_ => St B w [] w_ [blk b43 (.cells [(.slice ia56 r31.length ic57), (.slice la58 l51.length lc59), (.bool mn60)].toArray 71 (0, 0)), kU64.row ia56 ic57 r31, kWr.row la58 lc59 l51, viewA (ptr b37) r31 l50, kU64.row a29 c30 r31]) (by kernel_rfl) hs65 ?_
    refine any_val (v := (.pointer (some ⟨b37, 0, none⟩))) (v' := (.pointer (some ⟨b37, 0, none⟩))) 0 (by kernel_rfl) (fun _ => by kernel_rfl) rfl hs65 ?_
    refine any_val (v := (.pointer (some ⟨b43, 0, none⟩))) (v' := (.pointer (some ⟨b43, 0, none⟩))) 2 (by kernel_rfl) (fun _ => by kernel_rfl) rfl hs65 ?_
    refine any_val (v := (.pointer (some ⟨b43, 0, none⟩))) (v' := (.pointer (some ⟨b43, 0, none⟩))) 3 (by kernel_rfl) (fun _ => by kernel_rfl) rfl hs65 ?_
    refine any_val (v := (.pointer (some ⟨b43, 1, none⟩))) (v' := (.pointer (some ⟨b43, 1, none⟩))) 4 (by kernel_rfl) (fun _ => by kernel_rfl) rfl hs65 ?_
    refine any_R 5 (by kernel_rfl) (fun _ hS_ => runs_load (ad := ⟨b43, 1, none⟩) (v := (.slice la58 l51.length lc59)) (by kernel_rfl) (hS_.cellAt 0 rfl rfl)) hs65 ?_
    refine any_step 1 (by kernel_rfl) (by kernel_rfl) ?_
    refine ops_call0 hs65 (by kernel_rfl) (writes_spec (hv := (hs65.entAt 3 rfl viewA_at)) B _) ?_
    rintro _ _ w68 ⟨a66, c67, rfl, rfl⟩ hs69
    have hs70 := St.ap1 hs69
    have hs71 := St.f5 hs70
    have hs72 := St.f5 hs71
    have hs73 := St.f5 hs72
    have hs74 := St.f5 hs73
    have hs75 := St.f5 hs74
    have hs76 := St.tk5 hs75
    refine ops_done (by kernel_rfl) ⟨hs76, ?_⟩
    refine any_step 6 (by kernel_rfl) (by kernel_rfl) ?_
    obtain ⟨h77, hm⟩ := need_some hm
    refine zC00 hs70 (same05_spec (xs := l50) (ys := l51) (xc := c67) (yc := lc59) (n := l50.length) (m := l51.length) (hn := rfl) (hm := rfl) (hx := (St.kcells kWr hs70 0 rfl)) (hy := (St.kcells kWr hs70 3 rfl)) (hsz := h77) B _) fun w78 hs80 => ?_
    have hs81 := St.f5 hs80
    have hs82 := St.f5 hs81
    have hs83 := St.f5 hs82
    have hs84 := St.f5 hs83
    have hs85 := St.f5 hs84
    have hs86 := St.tk5 hs85
    refine ops_done (by kernel_rfl) ⟨hs86, ?_⟩
    refine any_val (v := (.bool (decide (l50 = l51)))) (v' := (.bool (decide (l50 = l51)))) 7 (by kernel_rfl) (fun _ => by kernel_rfl) rfl hs86 ?_
    rcases Bool.eq_false_or_eq_true (decide (l50 = l51)) with h87 | h87
    ·
     obtain ⟨h87p, hm⟩ := iY hm h87
     refine any_set 215 (v := .bool true) (eq_bool_of (by kernel_rfl) h87) ?_
     refine any_set 216 (v := .bool true) (eq_bool_of (by kernel_rfl) h87) ?_
     refine any_step 8 (by kernel_rfl) (by kernel_rfl) ?_
     obtain ⟨r88, h89, hm⟩ := bind_some hm
     refine zC00 hs80 (works10_walk (hG2 := hG2) (hL := (hs80.oldCells hL)) (hm := h89) B _) fun w90 hs92 => ?_
     have hs93 := St.f5 hs92
     have hs94 := St.f5 hs93
     have hs95 := St.f5 hs94
     have hs96 := St.f5 hs95
     have hs97 := St.f5 hs96
     have hs98 := St.tk5 hs97
     refine ops_done (by kernel_rfl) ⟨hs98, ?_⟩
     refine any_val (v := (.bool r88)) (v' := (.bool r88)) 9 (by kernel_rfl) (fun _ => by kernel_rfl) rfl hs98 ?_
     refine any_val (v := (.bool r88)) (v' := (.bool r88)) 10 (by kernel_rfl) (fun _ => by kernel_rfl) rfl hs98 ?_
     refine any_done (by kernel_rfl) ?_
     have hs99 := St.f5 hs92
     have hs100 := St.f5 hs99
     have hs101 := St.f2 hs100
     have hs102 := St.f5 hs101
     have hs103 := St.f5 hs102
     have hs104 := St.f5 hs103
     have hs105 : St B w [] w90 [refA (ptr b43) r31 l51, kWr.row a66 c67 l50, viewA (ptr b37) r31 l50, kU64.row a29 c30 r31] := ref_close (l := l51) (ia := ia56) (ic := ic57) (la := la58) (lc := lc59) (many := mn60) hok62 hs104
     refine hK54 _ _ ?_
     refine W.ret ?_
     have hs106 := St.tk0 hs105
     refine ret_of (.bool r88) (by kernel_rfl) ⟨_, ⟨congrArg Value.bool (some_inj hm), rfl⟩, hs106⟩
    ·
     obtain ⟨h87p, hm⟩ := iN hm h87
     refine any_set 215 (v := .bool false) (eq_bool_of (by kernel_rfl) h87) ?_
     refine any_set 216 (v := .bool false) (eq_bool_of (by kernel_rfl) h87) ?_
     refine any_skip 8 (by kernel_rfl) (by kernel_rfl) hs86 ?_
     refine any_val (v := (.bool false)) (v' := (.bool false)) 9 (by kernel_rfl) (fun _ => by kernel_rfl) rfl hs86 ?_
     refine any_val (v := (.bool false)) (v' := (.bool false)) 10 (by kernel_rfl) (fun _ => by kernel_rfl) rfl hs86 ?_
     refine any_done (by kernel_rfl) ?_
     have hs107 := St.f5 hs80
     have hs108 := St.f5 hs107
     have hs109 := St.f2 hs108
     have hs110 := St.f5 hs109
     have hs111 := St.f5 hs110
     have hs112 := St.f5 hs111
     have hs113 : St B w [] w78 [refA (ptr b43) r31 l51, kWr.row a66 c67 l50, viewA (ptr b37) r31 l50, kU64.row a29 c30 r31] := ref_close (l := l51) (ia := ia56) (ic := ic57) (la := la58) (lc := lc59) (many := mn60) hok62 hs112
     refine hK54 _ _ ?_
     refine W.ret ?_
     have hs114 := St.tk0 hs113
     refine ret_of (.bool false) (by kernel_rfl) ⟨_, ⟨congrArg Value.bool (some_inj hm), rfl⟩, hs114⟩
   ·
    refine W.sr fun K115 hK115 => ?_
    refine zE 1 (hK115 _ _ ?_)
    refine W.block ?_
    have hs123 := St.f2 hs47
    have hs124 := St.f1 hs123
    have hs125 := St.f2 hs124
    refine W.loop_iter (G := (List (Int × Int)) × (List (Int × Int)) × Int) (σ := (List (Int × Int)) × (List (Int × Int)) × Int) (fun | (l116, l117, p118) => (l116, l117, p118)) (fun | (l116, l117, p118), s_, w_ => (∃ us, s_ = slots 219 [(2, (.slice sa ss.length sc)), (8, (.pointer (some ⟨b37, 0, none⟩))), (9, (.pointer (some ⟨b43, 0, none⟩))), (10, (.int .i64 p118))] us) ∧ St B w [] w_ [viewA (ptr b37) r31 l116, refA (ptr b43) r31 l117, kU64.row a29 c30 r31]) ([], [], 0) ⟨slots_intro _ (by kernel_rfl), hs125⟩ hm ?_
    rintro k119 ih120 ⟨l116, l117, p118⟩ _ w121 ⟨⟨us, rfl⟩, hs122⟩ hm
    replace hm : slotplays_B0 ss r31 k119 l116 l117 p118 = some true := hm
    unfold slotplays_B0 at hm
    refine W.seq fun K126 hK126 => ?_
    refine W.sr fun K127 hK127 => ?_
    refine zE 4 (hK127 _ _ ?_)
    refine W.cond (decide (p118 < (ss.length : Int))) (by kernel_rfl) (fun h128 => ?_) (fun h128 => ?_)
    ·
     obtain ⟨h128p, hm⟩ := iY hm h128
     refine W.skip ?_
     refine hK126 _ _ ?_
     refine W.seq fun K129 hK129 => ?_
     refine W.block ?_
     refine W.sr fun K130 hK130 => ?_
     refine zR 2 ?_
     obtain ⟨h132, hm⟩ := need_some hm
     have hk131 := lt_toNat h132
     refine ops_R (runs_index (a := sa) (n := ss.length) (z := p118) (size := 12) p118.toNat (nat_of h132.1) hk131 (kSt10.addr (hs122.oldCells hst) hk131) (by kernel_rfl)) ?_
     refine ops_R (runs_loadAgg (cs := [(.int .u8 ((ss.getD p118.toNat dSt10).c0)), (.int .i64 ((ss.getD p118.toNat dSt10).c1)), (.int .i64 ((ss.getD p118.toNat dSt10).c2)), (.bool ((ss.getD p118.toNat dSt10).c3)), (.int .u64 ((ss.getD p118.toNat dSt10).c4)), (.int .u64 ((ss.getD p118.toNat dSt10).c5)), (.int .u64 ((ss.getD p118.toNat dSt10).c6)), (.int .i64 ((ss.getD p118.toNat dSt10).c7)), (.int .u64 ((ss.getD p118.toNat dSt10).c8)), (.int .u64 ((ss.getD p118.toNat dSt10).c9)), (.string ((ss.getD p118.toNat dSt10).c10)), (.bool ((ss.getD p118.toNat dSt10).c11))]) (by kernel_rfl) (kSt10.all (hs122.oldCells hst) hk131 dSt10 0 rfl)) ?_
     refine zN [(.int .u8 0), (.int .i64 0), (.int .i64 0), (.bool false), (.int .u64 0), (.int .u64 0), (.int .u64 0), (.int .i64 0), (.int .u64 0), (.int .u64 0), (.string ByteArray.empty), (.bool false)] 68 hs122 fun b135 w133 hs134 => ?_
     refine ops_store (off := 0) (cs := [(.int .u8 0), (.int .i64 0), (.int .i64 0), (.bool false), (.int .u64 0), (.int .u64 0), (.int .u64 0), (.int .i64 0), (.int .u64 0), (.int .u64 0), (.string ByteArray.empty), (.bool false)]) (vs := [(.int .u8 ((ss.getD p118.toNat dSt10).c0)), (.int .i64 ((ss.getD p118.toNat dSt10).c1)), (.int .i64 ((ss.getD p118.toNat dSt10).c2)), (.bool ((ss.getD p118.toNat dSt10).c3)), (.int .u64 ((ss.getD p118.toNat dSt10).c4)), (.int .u64 ((ss.getD p118.toNat dSt10).c5)), (.int .u64 ((ss.getD p118.toNat dSt10).c6)), (.int .i64 ((ss.getD p118.toNat dSt10).c7)), (.int .u64 ((ss.getD p118.toNat dSt10).c8)), (.int .u64 ((ss.getD p118.toNat dSt10).c9)), (.string ((ss.getD p118.toNat dSt10).c10)), (.bool ((ss.getD p118.toNat dSt10).c11))]) hs134 (by kernel_rfl) (by simp) rfl (fun w136 hs137 => ?_)
     have hs138 : St B w [] w136 [blk b135 (.cells [(.int .u8 ((ss.getD p118.toNat dSt10).c0)), (.int .i64 ((ss.getD p118.toNat dSt10).c1)), (.int .i64 ((ss.getD p118.toNat dSt10).c2)), (.bool ((ss.getD p118.toNat dSt10).c3)), (.int .u64 ((ss.getD p118.toNat dSt10).c4)), (.int .u64 ((ss.getD p118.toNat dSt10).c5)), (.int .u64 ((ss.getD p118.toNat dSt10).c6)), (.int .i64 ((ss.getD p118.toNat dSt10).c7)), (.int .u64 ((ss.getD p118.toNat dSt10).c8)), (.int .u64 ((ss.getD p118.toNat dSt10).c9)), (.string ((ss.getD p118.toNat dSt10).c10)), (.bool ((ss.getD p118.toNat dSt10).c11))].toArray 68 (0, 0)), viewA (ptr b37) r31 l116, refA (ptr b43) r31 l117, kU64.row a29 c30 r31] := hs137
     refine zD (hK130 _ _ ?_)
     refine W.seq_join (fun s_ w_ => ∃ (l139 : List (Int × Int)) (l140 : List (Int × Int)), (∃ us, s_ = slots 219 [(2, (.slice sa ss.length sc)), (8, (.pointer (some ⟨b37, 0, none⟩))), (9, (.pointer (some ⟨b43, 0, none⟩))), (10, (.int .i64 p118)), (11, (.pointer (some ⟨b135, 0, none⟩)))] us) ∧ St B w [] w_ [viewA (ptr b37) r31 l139, refA (ptr b43) r31 l140, blk b135 (.cells [(.int .u8 ((ss.getD p118.toNat dSt10).c0)), (.int .i64 ((ss.getD p118.toNat dSt10).c1)), (.int .i64 ((ss.getD p118.toNat dSt10).c2)), (.bool ((ss.getD p118.toNat dSt10).c3)), (.int .u64 ((ss.getD p118.toNat dSt10).c4)), (.int .u64 ((ss.getD p118.toNat dSt10).c5)), (.int .u64 ((ss.getD p118.toNat dSt10).c6)), (.int .i64 ((ss.getD p118.toNat dSt10).c7)), (.int .u64 ((ss.getD p118.toNat dSt10).c8)), (.int .u64 ((ss.getD p118.toNat dSt10).c9)), (.string ((ss.getD p118.toNat dSt10).c10)), (.bool ((ss.getD p118.toNat dSt10).c11))].toArray 68 (0, 0)), kU64.row a29 c30 r31] ∧ slotplays_J3 ss r31 k119 p118 l139 l140 = some true) ?_ ?_
     ·
      rintro _ w141 ⟨l139, l140, ⟨us, rfl⟩, hs142, hm⟩
      unfold slotplays_J3 at hm
      refine W.seq fun K143 hK143 => ?_
      have hs144 := hs142.drew
      refine W.regionD [(0, 0), (1, 1), (2, 2), (0, 0), (8, 8), (20, 16), (36, 36), (127, 64)] (fun w_ => St B w [] w_ [viewA (ptr b37) r31 l139, refA (ptr b43) r31 l140, blk b135 (.cells [(.int .u8 ((ss.getD p118.toNat dSt10).c0)), (.int .i64 ((ss.getD p118.toNat dSt10).c1)), (.int .i64 ((ss.getD p118.toNat dSt10).c2)), (.bool ((ss.getD p118.toNat dSt10).c3)), (.int .u64 ((ss.getD p118.toNat dSt10).c4)), (.int .u64 ((ss.getD p118.toNat dSt10).c5)), (.int .u64 ((ss.getD p118.toNat dSt10).c6)), (.int .i64 ((ss.getD p118.toNat dSt10).c7)), (.int .u64 ((ss.getD p118.toNat dSt10).c8)), (.int .u64 ((ss.getD p118.toNat dSt10).c9)), (.string ((ss.getD p118.toNat dSt10).c10)), (.bool ((ss.getD p118.toNat dSt10).c11))].toArray 68 (0, 0)), kU64.row a29 c30 r31]) (by kernel_rfl) hs144 ?_
      refine any_val (v := (.pointer (some ⟨b135, 7, none⟩))) (v' := (.pointer (some ⟨b135, 7, none⟩))) 0 (by kernel_rfl) (fun _ => by kernel_rfl) rfl hs144 ?_
      refine any_R 1 (by kernel_rfl) (fun _ hS_ => runs_loadAgg (ad := ⟨b135, 7, none⟩) (cs := [(.int .i64 ((ss.getD p118.toNat dSt10).c7)), (.int .u64 ((ss.getD p118.toNat dSt10).c8)), (.int .u64 ((ss.getD p118.toNat dSt10).c9)), (.string ((ss.getD p118.toNat dSt10).c10))]) (by kernel_rfl) (cells_sub (hS_.heapAt 2 rfl) rfl)) hs144 ?_
      refine any_val (v := (.pointer (some ⟨b135, 7, none⟩))) (v' := (.pointer (some ⟨b135, 7, none⟩))) 3 (by kernel_rfl) (fun _ => by kernel_rfl) rfl hs144 ?_
      refine any_R 4 (by kernel_rfl) (fun _ hS_ => runs_loadAgg (ad := ⟨b135, 7, none⟩) (cs := [(.int .i64 ((ss.getD p118.toNat dSt10).c7)), (.int .u64 ((ss.getD p118.toNat dSt10).c8)), (.int .u64 ((ss.getD p118.toNat dSt10).c9)), (.string ((ss.getD p118.toNat dSt10).c10))]) (by kernel_rfl) (cells_sub (hS_.heapAt 2 rfl) rfl)) hs144 ?_
      refine any_step 2 (by kernel_rfl) (by kernel_rfl) ?_
      obtain ⟨r145, h146, hm⟩ := bind_some hm
      refine zC00 hs144 (smay10_walk (re_ := (ss.getD p118.toNat dSt10).c7) (ra_ := (ss.getD p118.toNat dSt10).c8) (rb_ := (ss.getD p118.toNat dSt10).c9) (rs_ := (ss.getD p118.toNat dSt10).c10) (hm := h146) B _) fun w147 hs149 => ?_
      refine ops_done (by kernel_rfl) ⟨hs149, ?_⟩
      refine any_step 5 (by kernel_rfl) (by kernel_rfl) ?_
      obtain ⟨r150, h151, hm⟩ := bind_some hm
      refine zC00 hs149 (rmay10_walk (re_ := (ss.getD p118.toNat dSt10).c7) (ra_ := (ss.getD p118.toNat dSt10).c8) (rb_ := (ss.getD p118.toNat dSt10).c9) (rs_ := (ss.getD p118.toNat dSt10).c10) (hm := h151) B _) fun w152 hs154 => ?_
      refine ops_done (by kernel_rfl) ⟨hs154, ?_⟩
      refine any_val (v := (.bool (r145 == r150))) (v' := (.bool (r145 == r150))) 6 (by kernel_rfl) (fun _ => by kernel_rfl) rfl hs154 ?_
      refine any_val (v := (.bool (r145 == r150))) (v' := (.bool (r145 == r150))) 7 (by kernel_rfl) (fun _ => by kernel_rfl) rfl hs154 ?_
      refine any_done (by kernel_rfl) ?_
      refine hK143 _ _ ?_
      refine W.seq_join (fun s_ w_ => ∃ (l155 : List (Int × Int)) (l156 : List (Int × Int)) (p157 : Bool), (∃ us, s_ = slots 219 [(2, (.slice sa ss.length sc)), (8, (.pointer (some ⟨b37, 0, none⟩))), (9, (.pointer (some ⟨b43, 0, none⟩))), (10, (.int .i64 p118)), (12, (.bool p157))] us) ∧ St B w [] w_ [viewA (ptr b37) r31 l155, refA (ptr b43) r31 l156, blk b135 (.cells [(.int .u8 ((ss.getD p118.toNat dSt10).c0)), (.int .i64 ((ss.getD p118.toNat dSt10).c1)), (.int .i64 ((ss.getD p118.toNat dSt10).c2)), (.bool ((ss.getD p118.toNat dSt10).c3)), (.int .u64 ((ss.getD p118.toNat dSt10).c4)), (.int .u64 ((ss.getD p118.toNat dSt10).c5)), (.int .u64 ((ss.getD p118.toNat dSt10).c6)), (.int .i64 ((ss.getD p118.toNat dSt10).c7)), (.int .u64 ((ss.getD p118.toNat dSt10).c8)), (.int .u64 ((ss.getD p118.toNat dSt10).c9)), (.string ((ss.getD p118.toNat dSt10).c10)), (.bool ((ss.getD p118.toNat dSt10).c11))].toArray 68 (0, 0)), kU64.row a29 c30 r31] ∧ slotplays_J4 k119 p118 l155 l156 p157 = some true) ?_ ?_
      ·
       rintro _ w158 ⟨l155, l156, p157, ⟨us, rfl⟩, hs159, hm⟩
       unfold slotplays_J4 at hm
       refine W.sr fun K160 hK160 => ?_
       refine zE 2 (hK160 _ _ ?_)
       refine W.cond (!p157) (by kernel_rfl) (fun h161 => ?_) (fun h161 => ?_)
       rotate_left
       ·
        have h161p : p157 = true := (bnot_false h161)
        replace hm := ite_yes hm h161p
        refine W.skip ?_
        refine normal_block ?_
        refine hK129 _ _ ?_
        refine W.region ?_
        refine zR 1 ?_
        obtain ⟨h162, hm⟩ := need_some hm
        refine zI _ (wrap_i64 h162.1 h162.2) ?_
        refine zE 1 ?_
        have hs163 := St.f3 hs159
        have hs164 := St.f2 hs163
        have hs165 := St.f2 hs164
        have hs166 := St.tk3 hs165
        refine loopAt_next ?_
        exact ih120 (l155, l156, (p118 + 1)) _ _ ⟨slots_intro _ (by kernel_rfl), hs166⟩ hm
       ·
        have h161p : ¬ (p157 = true) := ne_true_of_eq_false (bnot_true h161)
        replace hm := ite_no hm h161p
        refine W.sr fun K167 hK167 => ?_
        refine zE 1 (hK167 _ _ ?_)
        refine W.ret (ret_block (ret_seq (ret_seq (ret_block (ret_seq ?_)))))
        have hs168 := St.tk0 hs159
        refine ret_of (.bool false) (by kernel_rfl) ⟨_, ⟨congrArg Value.bool (some_inj hm), rfl⟩, hs168⟩
      ·
       refine W.sr fun K169 hK169 => ?_
       refine zR 1 ?_
       refine zL ⟨b135, 0, none⟩ (.int .u8 ((ss.getD p118.toNat dSt10).c0)) (hs154.cellAt 2 rfl rfl) ?_
       refine zE 1 (hK169 _ _ ?_)
       refine W.block ?_
       refine W.sr fun K170 hK170 => ?_
       refine zE 2 (hK170 _ _ ?_)
       refine W.cond (decide (((ss.getD p118.toNat dSt10).c0).tmod 6 = 0)) (by kernel_rfl) (fun h171 => ?_) (fun h171 => ?_)
       ·
        obtain ⟨h171p, hm⟩ := iY hm h171
        refine W.sr fun K172 hK172 => ?_
        refine zR 2 ?_
        refine zL ⟨b135, 1, none⟩ (.int .i64 ((ss.getD p118.toNat dSt10).c1)) (hs154.cellAt 2 rfl rfl) ?_
        obtain ⟨r173, h174, hm⟩ := bind_some hm
        refine zC00 hs154 (sget_walk (i_ := (ss.getD p118.toNat dSt10).c1) (img := r31) (l := l139) (hL := (hs154.oldCells hL)) (hv := (hs154.entAt 0 rfl viewA_at)) (hm := h174) B _) fun w175 hs177 => ?_
        refine zR 3 ?_
        refine zN [(.bool false), (.int .u64 0), (.int .u64 0)] 48 hs177 fun b180 w178 hs179 => ?_
        refine ops_store (off := 0) (cs := [(.bool false), (.int .u64 0), (.int .u64 0)]) (vs := [(.bool r173.1), (.int .u64 r173.2.1), (.int .u64 r173.2.2.1)]) hs179 (by kernel_rfl) (by simp) rfl (fun w181 hs182 => ?_)
        have hs183 : St B w [] w181 [blk b180 (.cells [(.bool r173.1), (.int .u64 r173.2.1), (.int .u64 r173.2.2.1)].toArray 48 (0, 0)), viewA (ptr b37) r31 l139, refA (ptr b43) r31 l140, blk b135 (.cells [(.int .u8 ((ss.getD p118.toNat dSt10).c0)), (.int .i64 ((ss.getD p118.toNat dSt10).c1)), (.int .i64 ((ss.getD p118.toNat dSt10).c2)), (.bool ((ss.getD p118.toNat dSt10).c3)), (.int .u64 ((ss.getD p118.toNat dSt10).c4)), (.int .u64 ((ss.getD p118.toNat dSt10).c5)), (.int .u64 ((ss.getD p118.toNat dSt10).c6)), (.int .i64 ((ss.getD p118.toNat dSt10).c7)), (.int .u64 ((ss.getD p118.toNat dSt10).c8)), (.int .u64 ((ss.getD p118.toNat dSt10).c9)), (.string ((ss.getD p118.toNat dSt10).c10)), (.bool ((ss.getD p118.toNat dSt10).c11))].toArray 68 (0, 0)), kU64.row a29 c30 r31] := hs182
        refine zE 1 (hK172 _ _ ?_)
        refine W.sr fun K184 hK184 => ?_
        refine zR 2 ?_
        refine zL ⟨b135, 1, none⟩ (.int .i64 ((ss.getD p118.toNat dSt10).c1)) (hs183.cellAt 3 rfl rfl) ?_
        obtain ⟨r185, h186, hm⟩ := bind_some hm
        refine zC00 hs183 (rget10_walk (i_ := (ss.getD p118.toNat dSt10).c1) (img := r31) (l := l140) (hv := (hs183.entAt 2 rfl refA_at)) (hm := h186) B _) fun w187 hs189 => ?_
        refine zR 3 ?_
        refine zN [(.bool false), (.int .u64 0), (.int .u64 0)] 73 hs189 fun b192 w190 hs191 => ?_
        refine ops_store (off := 0) (cs := [(.bool false), (.int .u64 0), (.int .u64 0)]) (vs := [(.bool r185.1), (.int .u64 r185.2.1), (.int .u64 r185.2.2.1)]) hs191 (by kernel_rfl) (by simp) rfl (fun w193 hs194 => ?_)
        have hs195 : St B w [] w193 [blk b192 (.cells [(.bool r185.1), (.int .u64 r185.2.1), (.int .u64 r185.2.2.1)].toArray 73 (0, 0)), blk b180 (.cells [(.bool r173.1), (.int .u64 r173.2.1), (.int .u64 r173.2.2.1)].toArray 48 (0, 0)), viewA (ptr b37) r31 l139, refA (ptr b43) r31 l140, blk b135 (.cells [(.int .u8 ((ss.getD p118.toNat dSt10).c0)), (.int .i64 ((ss.getD p118.toNat dSt10).c1)), (.int .i64 ((ss.getD p118.toNat dSt10).c2)), (.bool ((ss.getD p118.toNat dSt10).c3)), (.int .u64 ((ss.getD p118.toNat dSt10).c4)), (.int .u64 ((ss.getD p118.toNat dSt10).c5)), (.int .u64 ((ss.getD p118.toNat dSt10).c6)), (.int .i64 ((ss.getD p118.toNat dSt10).c7)), (.int .u64 ((ss.getD p118.toNat dSt10).c8)), (.int .u64 ((ss.getD p118.toNat dSt10).c9)), (.string ((ss.getD p118.toNat dSt10).c10)), (.bool ((ss.getD p118.toNat dSt10).c11))].toArray 68 (0, 0)), kU64.row a29 c30 r31] := hs194
        refine zE 1 (hK184 _ _ ?_)
        refine W.region ?_
        refine zR 2 ?_
        rcases Bool.eq_false_or_eq_true (r145 == r150) with h196 | h196
        ·
         have h196p : ((r145 = true) ↔ (r150 = true)) := beq_yes Iff.rfl Iff.rfl h196
         replace hm := ite_yes hm h196p
         refine zS 101 h196 ?_
         refine zS 64 h196 ?_
         refine zS 12 h196 ?_
         refine zS 100 h196 ?_
         refine zR 5 ?_
         rcases Bool.eq_false_or_eq_true (decide (r173.2.2.2 = r185.2.2.2)) with h197 | h197
         ·
          obtain ⟨h197p, hm⟩ := iY hm h197
          refine zS 106 h197 ?_
          refine zS 104 h197 ?_
          refine zS 105 h197 ?_
          refine ops_R (runs_loadAgg (ad := ⟨b180, 0, none⟩) (cs := [(.bool r173.1), (.int .u64 r173.2.1), (.int .u64 r173.2.2.1)]) (by kernel_rfl) (cells_sub (hs195.heapAt 1 rfl) rfl)) ?_
          refine ops_R (runs_loadAgg (ad := ⟨b192, 0, none⟩) (cs := [(.bool r185.1), (.int .u64 r185.2.1), (.int .u64 r185.2.2.1)]) (by kernel_rfl) (cells_sub (hs195.heapAt 0 rfl) rfl)) ?_
          refine ops_R (v := (.bool ((r173.1 == r185.1) && ((decide (r173.2.1 = r185.2.1)) && ((decide (r173.2.2.1 = r185.2.2.1)) && true))))) (runs_eq (b := ((r173.1 == r185.1) && ((decide (r173.2.1 = r185.2.1)) && ((decide (r173.2.2.1 = r185.2.2.1)) && true)))) (by kernel_rfl)) ?_
          refine zE 2 ?_
          refine normal_block ?_
          have hs198 := St.f5 hs195
          have hs199 := St.f5 hs198
          have hs200 := St.f5 hs199
          have hs201 := St.f5 hs200
          have hs202 := St.tk4 hs201
          exact ⟨l139, l140, ((r173.1 == r185.1) && ((decide (r173.2.1 = r185.2.1)) && ((decide (r173.2.2.1 = r185.2.2.1)) && true))), slots_intro _ (by kernel_rfl), hs202, hm⟩
         ·
          obtain ⟨h197p, hm⟩ := iN hm h197
          refine zS 106 h197 ?_
          refine zS 104 h197 ?_
          refine zS 105 h197 ?_
          refine zE 5 ?_
          refine normal_block ?_
          have hs203 := St.f5 hs195
          have hs204 := St.f5 hs203
          have hs205 := St.f5 hs204
          have hs206 := St.f5 hs205
          have hs207 := St.tk4 hs206
          exact ⟨l139, l140, false, slots_intro _ (by kernel_rfl), hs207, hm⟩
        ·
         have h196p : ¬ ((r145 = true) ↔ (r150 = true)) := beq_no Iff.rfl Iff.rfl h196
         replace hm := ite_no hm h196p
         refine zS 101 h196 ?_
         refine zS 64 h196 ?_
         refine zS 12 h196 ?_
         refine zS 100 h196 ?_
         refine zE 10 ?_
         refine normal_block ?_
         have hs208 := St.f5 hs195
         have hs209 := St.f5 hs208
         have hs210 := St.f5 hs209
         have hs211 := St.f5 hs210
         have hs212 := St.tk4 hs211
         exact ⟨l139, l140, false, slots_intro _ (by kernel_rfl), hs212, hm⟩
       ·
        obtain ⟨h171p, hm⟩ := iN hm h171
        refine W.sr fun K213 hK213 => ?_
        refine zE 2 (hK213 _ _ ?_)
        refine W.cond (decide (((ss.getD p118.toNat dSt10).c0).tmod 6 = 1)) (by kernel_rfl) (fun h214 => ?_) (fun h214 => ?_)
        ·
         obtain ⟨h214p, hm⟩ := iY hm h214
         have hs215 := hs154.drew
         have hs216 := St.f3 hs215
         have hs217 := St.f3 hs216
         have hs218 := St.tk2 hs217
         refine W.regionD [(0, 0), (1, 1), (2, 2), (2, 2), (10, 10), (2, 2), (34, 34), (86, 86), (2, 2), (2, 2), (514, 514), (2, 2), (2050, 2050), (5506, 5378), (8322, 8322), (16386, 16386), (65535, 32769)] (fun w_ => St B w [] w_ [blk b135 (.cells [(.int .u8 ((ss.getD p118.toNat dSt10).c0)), (.int .i64 ((ss.getD p118.toNat dSt10).c1)), (.int .i64 ((ss.getD p118.toNat dSt10).c2)), (.bool ((ss.getD p118.toNat dSt10).c3)), (.int .u64 ((ss.getD p118.toNat dSt10).c4)), (.int .u64 ((ss.getD p118.toNat dSt10).c5)), (.int .u64 ((ss.getD p118.toNat dSt10).c6)), (.int .i64 ((ss.getD p118.toNat dSt10).c7)), (.int .u64 ((ss.getD p118.toNat dSt10).c8)), (.int .u64 ((ss.getD p118.toNat dSt10).c9)), (.string ((ss.getD p118.toNat dSt10).c10)), (.bool ((ss.getD p118.toNat dSt10).c11))].toArray 68 (0, 0)), kU64.row a29 c30 r31]) (by kernel_rfl) hs218 ?_
         refine any_val (v := (.bool (r145 == r150))) (v' := (.bool (r145 == r150))) 0 (by kernel_rfl) (fun _ => by kernel_rfl) rfl hs218 ?_
         refine any_val (v := (.bool (r145 == r150))) (v' := (.bool (r145 == r150))) 1 (by kernel_rfl) (fun _ => by kernel_rfl) rfl hs218 ?_
         rcases Bool.eq_false_or_eq_true (r145 == r150) with h219 | h219
         ·
          have h219p : ((r145 = true) ↔ (r150 = true)) := beq_yes Iff.rfl Iff.rfl h219
          replace hm := ite_yes hm h219p
          refine any_set 64 (v := .bool true) (eq_bool_of (by kernel_rfl) h219) ?_
          refine any_set 12 (v := .bool true) (eq_bool_of (by kernel_rfl) h219) ?_
          refine any_set 113 (v := .bool true) (eq_bool_of (by kernel_rfl) h219) ?_
          refine any_set 114 (v := .bool true) (eq_bool_of (by kernel_rfl) h219) ?_
          refine any_val (v := (.pointer (some ⟨b37, 0, none⟩))) (v' := (.pointer (some ⟨b37, 0, none⟩))) 2 (by kernel_rfl) (fun _ => by kernel_rfl) rfl hs218 ?_
          refine any_val (v := (.pointer (some ⟨b135, 1, none⟩))) (v' := (.pointer (some ⟨b135, 1, none⟩))) 3 (by kernel_rfl) (fun _ => by kernel_rfl) rfl hs218 ?_
          refine any_R 4 (by kernel_rfl) (fun _ hS_ => runs_load (ad := ⟨b135, 1, none⟩) (v := (.int .i64 ((ss.getD p118.toNat dSt10).c1))) (by kernel_rfl) (hS_.cellAt 0 rfl rfl)) hs218 ?_
          refine any_val (v := (.pointer (some ⟨b135, 3, none⟩))) (v' := (.pointer (some ⟨b135, 3, none⟩))) 5 (by kernel_rfl) (fun _ => by kernel_rfl) rfl hs218 ?_
          refine any_R 6 (by kernel_rfl) (fun _ hS_ => runs_loadAgg (ad := ⟨b135, 3, none⟩) (cs := [(.bool ((ss.getD p118.toNat dSt10).c3)), (.int .u64 ((ss.getD p118.toNat dSt10).c4)), (.int .u64 ((ss.getD p118.toNat dSt10).c5))]) (by kernel_rfl) (cells_sub (hS_.heapAt 0 rfl) rfl)) hs218 ?_
          refine any_val (v := (.pointer (some ⟨b43, 0, none⟩))) (v' := (.pointer (some ⟨b43, 0, none⟩))) 8 (by kernel_rfl) (fun _ => by kernel_rfl) rfl hs218 ?_
          refine any_val (v := (.pointer (some ⟨b135, 1, none⟩))) (v' := (.pointer (some ⟨b135, 1, none⟩))) 9 (by kernel_rfl) (fun _ => by kernel_rfl) rfl hs218 ?_
          refine any_R 10 (by kernel_rfl) (fun _ hS_ => runs_load (ad := ⟨b135, 1, none⟩) (v := (.int .i64 ((ss.getD p118.toNat dSt10).c1))) (by kernel_rfl) (hS_.cellAt 0 rfl rfl)) hs218 ?_
          refine any_val (v := (.pointer (some ⟨b135, 3, none⟩))) (v' := (.pointer (some ⟨b135, 3, none⟩))) 11 (by kernel_rfl) (fun _ => by kernel_rfl) rfl hs218 ?_
          refine any_R 12 (by kernel_rfl) (fun _ hS_ => runs_loadAgg (ad := ⟨b135, 3, none⟩) (cs := [(.bool ((ss.getD p118.toNat dSt10).c3)), (.int .u64 ((ss.getD p118.toNat dSt10).c4)), (.int .u64 ((ss.getD p118.toNat dSt10).c5))]) (by kernel_rfl) (cells_sub (hS_.heapAt 0 rfl) rfl)) hs218 ?_
          refine any_step 7 (by kernel_rfl) (by kernel_rfl) ?_
          obtain ⟨r220, h221, hm⟩ := bind_some hm
          refine zC11 hs215 (sput_walk (vb := b37) (i_ := (ss.getD p118.toNat dSt10).c1) (ho_ := (ss.getD p118.toNat dSt10).c3) (hg_ := (ss.getD p118.toNat dSt10).c4) (hk_ := (ss.getD p118.toNat dSt10).c5) (img := r31) (l := l139) (hG2 := hG2) (hL := (hs215.oldCells hL)) (hm := h221) B _) fun w222 hs224 => ?_
          have hs225 := St.f3 hs224
          have hs226 := St.f3 hs225
          have hs227 := St.tk2 hs226
          refine ops_done (by kernel_rfl) ⟨hs227, ?_⟩
          refine any_step 13 (by kernel_rfl) (by kernel_rfl) ?_
          obtain ⟨r228, h229, hm⟩ := bind_some hm
          have hs230 := St.f1 hs224
          refine zC11 hs230 (rput10_walk (vb := b43) (i_ := (ss.getD p118.toNat dSt10).c1) (ho_ := (ss.getD p118.toNat dSt10).c3) (hg_ := (ss.getD p118.toNat dSt10).c4) (hk_ := (ss.getD p118.toNat dSt10).c5) (img := r31) (l := l140) (hm := h229) B _) fun w231 hs233 => ?_
          have hs234 := St.f3 hs233
          have hs235 := St.f3 hs234
          have hs236 := St.tk2 hs235
          refine ops_done (by kernel_rfl) ⟨hs236, ?_⟩
          refine any_val (v := (.bool (decide (r220.1 = r228.1)))) (v' := (.bool (decide (r220.1 = r228.1)))) 14 (by kernel_rfl) (fun _ => by kernel_rfl) rfl hs236 ?_
          refine any_val (v := (.bool (decide (r220.1 = r228.1)))) (v' := (.bool (decide (r220.1 = r228.1)))) 15 (by kernel_rfl) (fun _ => by kernel_rfl) rfl hs236 ?_
          refine any_val (v := (.bool (decide (r220.1 = r228.1)))) (v' := (.bool (decide (r220.1 = r228.1)))) 16 (by kernel_rfl) (fun _ => by kernel_rfl) rfl hs236 ?_
          refine any_done (by kernel_rfl) ?_
          refine normal_block ?_
          have hs237 := St.f3 hs233
          have hs238 := St.f3 hs237
          have hs239 := St.f2 hs238
          have hs240 := St.f3 hs239
          exact ⟨r220.2, r228.2, (decide (r220.1 = r228.1)), slots_intro _ (by kernel_rfl), hs240, hm⟩
         ·
          have h219p : ¬ ((r145 = true) ↔ (r150 = true)) := beq_no Iff.rfl Iff.rfl h219
          replace hm := ite_no hm h219p
          refine any_set 64 (v := .bool false) (eq_bool_of (by kernel_rfl) h219) ?_
          refine any_set 12 (v := .bool false) (eq_bool_of (by kernel_rfl) h219) ?_
          refine any_set 113 (v := .bool false) (eq_bool_of (by kernel_rfl) h219) ?_
          refine any_set 114 (v := .bool false) (eq_bool_of (by kernel_rfl) h219) ?_
          refine any_skip 2 (by kernel_rfl) (by kernel_rfl) hs218 ?_
          refine any_skip 3 (by kernel_rfl) (by kernel_rfl) hs218 ?_
          refine any_skip 4 (by kernel_rfl) (by kernel_rfl) hs218 ?_
          refine any_skip 5 (by kernel_rfl) (by kernel_rfl) hs218 ?_
          refine any_skip 6 (by kernel_rfl) (by kernel_rfl) hs218 ?_
          refine any_skip 7 (by kernel_rfl) (by kernel_rfl) hs218 ?_
          refine any_skip 8 (by kernel_rfl) (by kernel_rfl) hs218 ?_
          refine any_skip 9 (by kernel_rfl) (by kernel_rfl) hs218 ?_
          refine any_skip 10 (by kernel_rfl) (by kernel_rfl) hs218 ?_
          refine any_skip 11 (by kernel_rfl) (by kernel_rfl) hs218 ?_
          refine any_skip 12 (by kernel_rfl) (by kernel_rfl) hs218 ?_
          refine any_skip 13 (by kernel_rfl) (by kernel_rfl) hs218 ?_
          refine any_skip 14 (by kernel_rfl) (by kernel_rfl) hs218 ?_
          refine any_val (v := (.bool false)) (v' := (.bool false)) 15 (by kernel_rfl) (fun _ => by kernel_rfl) rfl hs218 ?_
          refine any_val (v := (.bool false)) (v' := (.bool false)) 16 (by kernel_rfl) (fun _ => by kernel_rfl) rfl hs218 ?_
          refine any_done (by kernel_rfl) ?_
          refine normal_block ?_
          exact ⟨l139, l140, false, slots_intro _ (by kernel_rfl), hs215, hm⟩
        ·
         obtain ⟨h214p, hm⟩ := iN hm h214
         refine W.sr fun K241 hK241 => ?_
         refine zE 2 (hK241 _ _ ?_)
         refine W.cond (decide (((ss.getD p118.toNat dSt10).c0).tmod 6 = 2)) (by kernel_rfl) (fun h242 => ?_) (fun h242 => ?_)
         ·
          obtain ⟨h242p, hm⟩ := iY hm h242
          refine W.sr fun K243 hK243 => ?_
          refine zR 2 ?_
          refine zL ⟨b135, 1, none⟩ (.int .i64 ((ss.getD p118.toNat dSt10).c1)) (hs154.cellAt 2 rfl rfl) ?_
          refine zR 1 ?_
          refine zL ⟨b135, 2, none⟩ (.int .i64 ((ss.getD p118.toNat dSt10).c2)) (hs154.cellAt 2 rfl rfl) ?_
          obtain ⟨r244, h245, hm⟩ := bind_some hm
          refine zC00 hs154 (sload_walk (i_ := (ss.getD p118.toNat dSt10).c1) (k_ := (ss.getD p118.toNat dSt10).c2) (img := r31) (l := l139) (hL := (hs154.oldCells hL)) (hv := (hs154.entAt 0 rfl viewA_at)) (hm := h245) B _) fun w246 hs248 => ?_
          refine zR 4 ?_
          refine zN [(.int .i64 0), (.int .u64 0), (.int .u64 0), (.string ByteArray.empty)] 46 hs248 fun b251 w249 hs250 => ?_
          refine zR 1 ?_
          refine ops_store (off := 0) (cs := [(.int .i64 0), (.int .u64 0), (.int .u64 0), (.string ByteArray.empty)]) (vs := [(.int .i64 r244.2.1), (.int .u64 r244.2.2.1), (.int .u64 r244.2.2.2.1), (.string r244.2.2.2.2.1)]) hs250 (by kernel_rfl) (by simp) rfl (fun w252 hs253 => ?_)
          have hs254 : St B w [] w252 [blk b251 (.cells [(.int .i64 r244.2.1), (.int .u64 r244.2.2.1), (.int .u64 r244.2.2.2.1), (.string r244.2.2.2.2.1)].toArray 46 (0, 0)), viewA (ptr b37) r31 l139, refA (ptr b43) r31 l140, blk b135 (.cells [(.int .u8 ((ss.getD p118.toNat dSt10).c0)), (.int .i64 ((ss.getD p118.toNat dSt10).c1)), (.int .i64 ((ss.getD p118.toNat dSt10).c2)), (.bool ((ss.getD p118.toNat dSt10).c3)), (.int .u64 ((ss.getD p118.toNat dSt10).c4)), (.int .u64 ((ss.getD p118.toNat dSt10).c5)), (.int .u64 ((ss.getD p118.toNat dSt10).c6)), (.int .i64 ((ss.getD p118.toNat dSt10).c7)), (.int .u64 ((ss.getD p118.toNat dSt10).c8)), (.int .u64 ((ss.getD p118.toNat dSt10).c9)), (.string ((ss.getD p118.toNat dSt10).c10)), (.bool ((ss.getD p118.toNat dSt10).c11))].toArray 68 (0, 0)), kU64.row a29 c30 r31] := hs253
          refine zE 1 (hK243 _ _ ?_)
          refine W.sr fun K255 hK255 => ?_
          refine zR 2 ?_
          refine zL ⟨b135, 1, none⟩ (.int .i64 ((ss.getD p118.toNat dSt10).c1)) (hs254.cellAt 3 rfl rfl) ?_
          refine zR 1 ?_
          refine zL ⟨b135, 2, none⟩ (.int .i64 ((ss.getD p118.toNat dSt10).c2)) (hs254.cellAt 3 rfl rfl) ?_
          obtain ⟨r256, h257, hm⟩ := bind_some hm
          refine zC00 hs254 (rload_walk (i_ := (ss.getD p118.toNat dSt10).c1) (k_ := (ss.getD p118.toNat dSt10).c2) (img := r31) (l := l140) (hv := (hs254.entAt 2 rfl refA_at)) (hm := h257) B _) fun w258 hs260 => ?_
          refine zR 4 ?_
          refine zN [(.int .i64 0), (.int .u64 0), (.int .u64 0), (.string ByteArray.empty)] 46 hs260 fun b263 w261 hs262 => ?_
          refine zR 1 ?_
          refine ops_store (off := 0) (cs := [(.int .i64 0), (.int .u64 0), (.int .u64 0), (.string ByteArray.empty)]) (vs := [(.int .i64 r256.2.1), (.int .u64 r256.2.2.1), (.int .u64 r256.2.2.2.1), (.string r256.2.2.2.2.1)]) hs262 (by kernel_rfl) (by simp) rfl (fun w264 hs265 => ?_)
          have hs266 : St B w [] w264 [blk b263 (.cells [(.int .i64 r256.2.1), (.int .u64 r256.2.2.1), (.int .u64 r256.2.2.2.1), (.string r256.2.2.2.2.1)].toArray 46 (0, 0)), blk b251 (.cells [(.int .i64 r244.2.1), (.int .u64 r244.2.2.1), (.int .u64 r244.2.2.2.1), (.string r244.2.2.2.2.1)].toArray 46 (0, 0)), viewA (ptr b37) r31 l139, refA (ptr b43) r31 l140, blk b135 (.cells [(.int .u8 ((ss.getD p118.toNat dSt10).c0)), (.int .i64 ((ss.getD p118.toNat dSt10).c1)), (.int .i64 ((ss.getD p118.toNat dSt10).c2)), (.bool ((ss.getD p118.toNat dSt10).c3)), (.int .u64 ((ss.getD p118.toNat dSt10).c4)), (.int .u64 ((ss.getD p118.toNat dSt10).c5)), (.int .u64 ((ss.getD p118.toNat dSt10).c6)), (.int .i64 ((ss.getD p118.toNat dSt10).c7)), (.int .u64 ((ss.getD p118.toNat dSt10).c8)), (.int .u64 ((ss.getD p118.toNat dSt10).c9)), (.string ((ss.getD p118.toNat dSt10).c10)), (.bool ((ss.getD p118.toNat dSt10).c11))].toArray 68 (0, 0)), kU64.row a29 c30 r31] := hs265
          refine zE 1 (hK255 _ _ ?_)
          refine W.region ?_
          refine zR 2 ?_
          rcases Bool.eq_false_or_eq_true (r145 == r150) with h267 | h267
          ·
           have h267p : ((r145 = true) ↔ (r150 = true)) := beq_yes Iff.rfl Iff.rfl h267
           replace hm := ite_yes hm h267p
           refine zS 152 h267 ?_
           refine zS 64 h267 ?_
           refine zS 12 h267 ?_
           refine zS 151 h267 ?_
           refine zR 5 ?_
           rcases Bool.eq_false_or_eq_true (decide (r244.1 = r256.1)) with h268 | h268
           ·
            obtain ⟨h268p, hm⟩ := iY hm h268
            refine zS 157 h268 ?_
            refine zS 155 h268 ?_
            refine zS 156 h268 ?_
            refine ops_R (runs_loadAgg (ad := ⟨b251, 0, none⟩) (cs := [(.int .i64 r244.2.1), (.int .u64 r244.2.2.1), (.int .u64 r244.2.2.2.1), (.string r244.2.2.2.2.1)]) (by kernel_rfl) (cells_sub (hs266.heapAt 1 rfl) rfl)) ?_
            refine ops_R (runs_loadAgg (ad := ⟨b263, 0, none⟩) (cs := [(.int .i64 r256.2.1), (.int .u64 r256.2.2.1), (.int .u64 r256.2.2.2.1), (.string r256.2.2.2.2.1)]) (by kernel_rfl) (cells_sub (hs266.heapAt 0 rfl) rfl)) ?_
            refine ops_R (v := (.bool ((decide (r244.2.1 = r256.2.1)) && ((decide (r244.2.2.1 = r256.2.2.1)) && ((decide (r244.2.2.2.1 = r256.2.2.2.1)) && ((r244.2.2.2.2.1 == r256.2.2.2.2.1) && true)))))) (runs_eq (b := ((decide (r244.2.1 = r256.2.1)) && ((decide (r244.2.2.1 = r256.2.2.1)) && ((decide (r244.2.2.2.1 = r256.2.2.2.1)) && ((r244.2.2.2.2.1 == r256.2.2.2.2.1) && true))))) (by kernel_rfl)) ?_
            refine zR 2 ?_
            rcases Bool.eq_false_or_eq_true ((decide (r244.2.1 = r256.2.1)) && ((decide (r244.2.2.1 = r256.2.2.1)) && ((decide (r244.2.2.2.1 = r256.2.2.2.1)) && ((r244.2.2.2.2.1 == r256.2.2.2.2.1) && true)))) with h269 | h269
            ·
             have h269p : r244.2.1 = r256.2.1 ∧ r244.2.2.1 = r256.2.2.1 ∧ r244.2.2.2.1 = r256.2.2.2.1 ∧ r244.2.2.2.2.1 = r256.2.2.2.2.1 := by simpa using h269
             replace hm := ite_yes hm h269p
             refine zS 162 h269 ?_
             refine zS 160 h269 ?_
             refine zS 161 h269 ?_
             refine zE 5 ?_
             refine normal_block ?_
             have hs270 := St.f5 hs266
             have hs271 := St.f5 hs270
             have hs272 := St.f5 hs271
             have hs273 := St.f5 hs272
             have hs274 := St.tk4 hs273
             exact ⟨l139, l140, (decide (r244.2.2.2.2.2 = r256.2.2.2.2.2)), slots_intro _ (by kernel_rfl), hs274, hm⟩
            ·
             have h269p : ¬ (r244.2.1 = r256.2.1 ∧ r244.2.2.1 = r256.2.2.1 ∧ r244.2.2.2.1 = r256.2.2.2.1 ∧ r244.2.2.2.2.1 = r256.2.2.2.2.1) := by simpa using h269
             replace hm := ite_no hm h269p
             refine zS 162 h269 ?_
             refine zS 160 h269 ?_
             refine zS 161 h269 ?_
             refine zE 5 ?_
             refine normal_block ?_
             have hs275 := St.f5 hs266
             have hs276 := St.f5 hs275
             have hs277 := St.f5 hs276
             have hs278 := St.f5 hs277
             have hs279 := St.tk4 hs278
             exact ⟨l139, l140, false, slots_intro _ (by kernel_rfl), hs279, hm⟩
           ·
            obtain ⟨h268p, hm⟩ := iN hm h268
            refine zS 157 h268 ?_
            refine zS 155 h268 ?_
            refine zS 156 h268 ?_
            refine zE 10 ?_
            refine normal_block ?_
            have hs280 := St.f5 hs266
            have hs281 := St.f5 hs280
            have hs282 := St.f5 hs281
            have hs283 := St.f5 hs282
            have hs284 := St.tk4 hs283
            exact ⟨l139, l140, false, slots_intro _ (by kernel_rfl), hs284, hm⟩
          ·
           have h267p : ¬ ((r145 = true) ↔ (r150 = true)) := beq_no Iff.rfl Iff.rfl h267
           replace hm := ite_no hm h267p
           refine zS 152 h267 ?_
           refine zS 64 h267 ?_
           refine zS 12 h267 ?_
           refine zS 151 h267 ?_
           refine zE 15 ?_
           refine normal_block ?_
           have hs285 := St.f5 hs266
           have hs286 := St.f5 hs285
           have hs287 := St.f5 hs286
           have hs288 := St.f5 hs287
           have hs289 := St.tk4 hs288
           exact ⟨l139, l140, false, slots_intro _ (by kernel_rfl), hs289, hm⟩
         ·
          obtain ⟨h242p, hm⟩ := iN hm h242
          refine W.sr fun K290 hK290 => ?_
          refine zE 2 (hK290 _ _ ?_)
          refine W.cond (decide (((ss.getD p118.toNat dSt10).c0).tmod 6 = 3)) (by kernel_rfl) (fun h291 => ?_) (fun h291 => ?_)
          ·
           obtain ⟨h291p, hm⟩ := iY hm h291
           have hs292 := hs154.drew
           have hs293 := St.f3 hs292
           have hs294 := St.f3 hs293
           have hs295 := St.tk2 hs294
           refine W.regionD [(0, 0), (1, 1), (2, 2), (2, 2), (10, 10), (2, 2), (34, 34), (2, 2), (130, 130), (2, 2), (514, 514), (1366, 1366), (2, 2), (2, 2), (8194, 8194), (2, 2), (32770, 32770), (2, 2), (131074, 131074), (2, 2), (524290, 524290), (1398786, 1396738), (2099202, 2099202), (4194306, 4194306), (16777215, 8388609)] (fun w_ => St B w [] w_ [blk b135 (.cells [(.int .u8 ((ss.getD p118.toNat dSt10).c0)), (.int .i64 ((ss.getD p118.toNat dSt10).c1)), (.int .i64 ((ss.getD p118.toNat dSt10).c2)), (.bool ((ss.getD p118.toNat dSt10).c3)), (.int .u64 ((ss.getD p118.toNat dSt10).c4)), (.int .u64 ((ss.getD p118.toNat dSt10).c5)), (.int .u64 ((ss.getD p118.toNat dSt10).c6)), (.int .i64 ((ss.getD p118.toNat dSt10).c7)), (.int .u64 ((ss.getD p118.toNat dSt10).c8)), (.int .u64 ((ss.getD p118.toNat dSt10).c9)), (.string ((ss.getD p118.toNat dSt10).c10)), (.bool ((ss.getD p118.toNat dSt10).c11))].toArray 68 (0, 0)), kU64.row a29 c30 r31]) (by kernel_rfl) hs295 ?_
           refine any_val (v := (.bool (r145 == r150))) (v' := (.bool (r145 == r150))) 0 (by kernel_rfl) (fun _ => by kernel_rfl) rfl hs295 ?_
           refine any_val (v := (.bool (r145 == r150))) (v' := (.bool (r145 == r150))) 1 (by kernel_rfl) (fun _ => by kernel_rfl) rfl hs295 ?_
           rcases Bool.eq_false_or_eq_true (r145 == r150) with h296 | h296
           ·
            have h296p : ((r145 = true) ↔ (r150 = true)) := beq_yes Iff.rfl Iff.rfl h296
            replace hm := ite_yes hm h296p
            refine any_set 64 (v := .bool true) (eq_bool_of (by kernel_rfl) h296) ?_
            refine any_set 12 (v := .bool true) (eq_bool_of (by kernel_rfl) h296) ?_
            refine any_set 169 (v := .bool true) (eq_bool_of (by kernel_rfl) h296) ?_
            refine any_set 170 (v := .bool true) (eq_bool_of (by kernel_rfl) h296) ?_
            refine any_val (v := (.pointer (some ⟨b37, 0, none⟩))) (v' := (.pointer (some ⟨b37, 0, none⟩))) 2 (by kernel_rfl) (fun _ => by kernel_rfl) rfl hs295 ?_
            refine any_val (v := (.pointer (some ⟨b135, 1, none⟩))) (v' := (.pointer (some ⟨b135, 1, none⟩))) 3 (by kernel_rfl) (fun _ => by kernel_rfl) rfl hs295 ?_
            refine any_R 4 (by kernel_rfl) (fun _ hS_ => runs_load (ad := ⟨b135, 1, none⟩) (v := (.int .i64 ((ss.getD p118.toNat dSt10).c1))) (by kernel_rfl) (hS_.cellAt 0 rfl rfl)) hs295 ?_
            refine any_val (v := (.pointer (some ⟨b135, 2, none⟩))) (v' := (.pointer (some ⟨b135, 2, none⟩))) 5 (by kernel_rfl) (fun _ => by kernel_rfl) rfl hs295 ?_
            refine any_R 6 (by kernel_rfl) (fun _ hS_ => runs_load (ad := ⟨b135, 2, none⟩) (v := (.int .i64 ((ss.getD p118.toNat dSt10).c2))) (by kernel_rfl) (hS_.cellAt 0 rfl rfl)) hs295 ?_
            refine any_val (v := (.pointer (some ⟨b135, 6, none⟩))) (v' := (.pointer (some ⟨b135, 6, none⟩))) 7 (by kernel_rfl) (fun _ => by kernel_rfl) rfl hs295 ?_
            refine any_R 8 (by kernel_rfl) (fun _ hS_ => runs_load (ad := ⟨b135, 6, none⟩) (v := (.int .u64 ((ss.getD p118.toNat dSt10).c6))) (by kernel_rfl) (hS_.cellAt 0 rfl rfl)) hs295 ?_
            refine any_val (v := (.pointer (some ⟨b135, 7, none⟩))) (v' := (.pointer (some ⟨b135, 7, none⟩))) 9 (by kernel_rfl) (fun _ => by kernel_rfl) rfl hs295 ?_
            refine any_R 10 (by kernel_rfl) (fun _ hS_ => runs_loadAgg (ad := ⟨b135, 7, none⟩) (cs := [(.int .i64 ((ss.getD p118.toNat dSt10).c7)), (.int .u64 ((ss.getD p118.toNat dSt10).c8)), (.int .u64 ((ss.getD p118.toNat dSt10).c9)), (.string ((ss.getD p118.toNat dSt10).c10))]) (by kernel_rfl) (cells_sub (hS_.heapAt 0 rfl) rfl)) hs295 ?_
            refine any_val (v := (.pointer (some ⟨b43, 0, none⟩))) (v' := (.pointer (some ⟨b43, 0, none⟩))) 12 (by kernel_rfl) (fun _ => by kernel_rfl) rfl hs295 ?_
            refine any_val (v := (.pointer (some ⟨b135, 1, none⟩))) (v' := (.pointer (some ⟨b135, 1, none⟩))) 13 (by kernel_rfl) (fun _ => by kernel_rfl) rfl hs295 ?_
            refine any_R 14 (by kernel_rfl) (fun _ hS_ => runs_load (ad := ⟨b135, 1, none⟩) (v := (.int .i64 ((ss.getD p118.toNat dSt10).c1))) (by kernel_rfl) (hS_.cellAt 0 rfl rfl)) hs295 ?_
            refine any_val (v := (.pointer (some ⟨b135, 2, none⟩))) (v' := (.pointer (some ⟨b135, 2, none⟩))) 15 (by kernel_rfl) (fun _ => by kernel_rfl) rfl hs295 ?_
            refine any_R 16 (by kernel_rfl) (fun _ hS_ => runs_load (ad := ⟨b135, 2, none⟩) (v := (.int .i64 ((ss.getD p118.toNat dSt10).c2))) (by kernel_rfl) (hS_.cellAt 0 rfl rfl)) hs295 ?_
            refine any_val (v := (.pointer (some ⟨b135, 6, none⟩))) (v' := (.pointer (some ⟨b135, 6, none⟩))) 17 (by kernel_rfl) (fun _ => by kernel_rfl) rfl hs295 ?_
            refine any_R 18 (by kernel_rfl) (fun _ hS_ => runs_load (ad := ⟨b135, 6, none⟩) (v := (.int .u64 ((ss.getD p118.toNat dSt10).c6))) (by kernel_rfl) (hS_.cellAt 0 rfl rfl)) hs295 ?_
            refine any_val (v := (.pointer (some ⟨b135, 7, none⟩))) (v' := (.pointer (some ⟨b135, 7, none⟩))) 19 (by kernel_rfl) (fun _ => by kernel_rfl) rfl hs295 ?_
            refine any_R 20 (by kernel_rfl) (fun _ hS_ => runs_loadAgg (ad := ⟨b135, 7, none⟩) (cs := [(.int .i64 ((ss.getD p118.toNat dSt10).c7)), (.int .u64 ((ss.getD p118.toNat dSt10).c8)), (.int .u64 ((ss.getD p118.toNat dSt10).c9)), (.string ((ss.getD p118.toNat dSt10).c10))]) (by kernel_rfl) (cells_sub (hS_.heapAt 0 rfl) rfl)) hs295 ?_
            refine any_step 11 (by kernel_rfl) (by kernel_rfl) ?_
            obtain ⟨r297, h298, hm⟩ := bind_some hm
            refine zC11 hs292 (ssave_walk (vb := b37) (i_ := (ss.getD p118.toNat dSt10).c1) (k_ := (ss.getD p118.toNat dSt10).c2) (q_ := (ss.getD p118.toNat dSt10).c6) (re_ := (ss.getD p118.toNat dSt10).c7) (ra_ := (ss.getD p118.toNat dSt10).c8) (rb_ := (ss.getD p118.toNat dSt10).c9) (rs_ := (ss.getD p118.toNat dSt10).c10) (img := r31) (l := l139) (hG2 := hG2) (hL := (hs292.oldCells hL)) (hm := h298) B _) fun w299 hs301 => ?_
            have hs302 := St.f3 hs301
            have hs303 := St.f3 hs302
            have hs304 := St.tk2 hs303
            refine ops_done (by kernel_rfl) ⟨hs304, ?_⟩
            refine any_step 21 (by kernel_rfl) (by kernel_rfl) ?_
            obtain ⟨r305, h306, hm⟩ := bind_some hm
            have hs307 := St.f1 hs301
            refine zC11 hs307 (rsave_walk (vb := b43) (i_ := (ss.getD p118.toNat dSt10).c1) (k_ := (ss.getD p118.toNat dSt10).c2) (q_ := (ss.getD p118.toNat dSt10).c6) (re_ := (ss.getD p118.toNat dSt10).c7) (ra_ := (ss.getD p118.toNat dSt10).c8) (rb_ := (ss.getD p118.toNat dSt10).c9) (rs_ := (ss.getD p118.toNat dSt10).c10) (img := r31) (l := l140) (hm := h306) B _) fun w308 hs310 => ?_
            have hs311 := St.f3 hs310
            have hs312 := St.f3 hs311
            have hs313 := St.tk2 hs312
            refine ops_done (by kernel_rfl) ⟨hs313, ?_⟩
            refine any_val (v := (.bool (decide (r297.1 = r305.1)))) (v' := (.bool (decide (r297.1 = r305.1)))) 22 (by kernel_rfl) (fun _ => by kernel_rfl) rfl hs313 ?_
            refine any_val (v := (.bool (decide (r297.1 = r305.1)))) (v' := (.bool (decide (r297.1 = r305.1)))) 23 (by kernel_rfl) (fun _ => by kernel_rfl) rfl hs313 ?_
            refine any_val (v := (.bool (decide (r297.1 = r305.1)))) (v' := (.bool (decide (r297.1 = r305.1)))) 24 (by kernel_rfl) (fun _ => by kernel_rfl) rfl hs313 ?_
            refine any_done (by kernel_rfl) ?_
            refine normal_block ?_
            have hs314 := St.f3 hs310
            have hs315 := St.f3 hs314
            have hs316 := St.f2 hs315
            have hs317 := St.f3 hs316
            exact ⟨r297.2, r305.2, (decide (r297.1 = r305.1)), slots_intro _ (by kernel_rfl), hs317, hm⟩
           ·
            have h296p : ¬ ((r145 = true) ↔ (r150 = true)) := beq_no Iff.rfl Iff.rfl h296
            replace hm := ite_no hm h296p
            refine any_set 64 (v := .bool false) (eq_bool_of (by kernel_rfl) h296) ?_
            refine any_set 12 (v := .bool false) (eq_bool_of (by kernel_rfl) h296) ?_
            refine any_set 169 (v := .bool false) (eq_bool_of (by kernel_rfl) h296) ?_
            refine any_set 170 (v := .bool false) (eq_bool_of (by kernel_rfl) h296) ?_
            refine any_skip 2 (by kernel_rfl) (by kernel_rfl) hs295 ?_
            refine any_skip 3 (by kernel_rfl) (by kernel_rfl) hs295 ?_
            refine any_skip 4 (by kernel_rfl) (by kernel_rfl) hs295 ?_
            refine any_skip 5 (by kernel_rfl) (by kernel_rfl) hs295 ?_
            refine any_skip 6 (by kernel_rfl) (by kernel_rfl) hs295 ?_
            refine any_skip 7 (by kernel_rfl) (by kernel_rfl) hs295 ?_
            refine any_skip 8 (by kernel_rfl) (by kernel_rfl) hs295 ?_
            refine any_skip 9 (by kernel_rfl) (by kernel_rfl) hs295 ?_
            refine any_skip 10 (by kernel_rfl) (by kernel_rfl) hs295 ?_
            refine any_skip 11 (by kernel_rfl) (by kernel_rfl) hs295 ?_
            refine any_skip 12 (by kernel_rfl) (by kernel_rfl) hs295 ?_
            refine any_skip 13 (by kernel_rfl) (by kernel_rfl) hs295 ?_
            refine any_skip 14 (by kernel_rfl) (by kernel_rfl) hs295 ?_
            refine any_skip 15 (by kernel_rfl) (by kernel_rfl) hs295 ?_
            refine any_skip 16 (by kernel_rfl) (by kernel_rfl) hs295 ?_
            refine any_skip 17 (by kernel_rfl) (by kernel_rfl) hs295 ?_
            refine any_skip 18 (by kernel_rfl) (by kernel_rfl) hs295 ?_
            refine any_skip 19 (by kernel_rfl) (by kernel_rfl) hs295 ?_
            refine any_skip 20 (by kernel_rfl) (by kernel_rfl) hs295 ?_
            refine any_skip 21 (by kernel_rfl) (by kernel_rfl) hs295 ?_
            refine any_skip 22 (by kernel_rfl) (by kernel_rfl) hs295 ?_
            refine any_val (v := (.bool false)) (v' := (.bool false)) 23 (by kernel_rfl) (fun _ => by kernel_rfl) rfl hs295 ?_
            refine any_val (v := (.bool false)) (v' := (.bool false)) 24 (by kernel_rfl) (fun _ => by kernel_rfl) rfl hs295 ?_
            refine any_done (by kernel_rfl) ?_
            refine normal_block ?_
            exact ⟨l139, l140, false, slots_intro _ (by kernel_rfl), hs292, hm⟩
          ·
           obtain ⟨h291p, hm⟩ := iN hm h291
           refine W.sr fun K318 hK318 => ?_
           refine zE 2 (hK318 _ _ ?_)
           refine W.cond (decide (((ss.getD p118.toNat dSt10).c0).tmod 6 = 4)) (by kernel_rfl) (fun h319 => ?_) (fun h319 => ?_)
           ·
            obtain ⟨h319p, hm⟩ := iY hm h319
            have hs320 := hs154.drew
            have hs321 := St.f3 hs320
            have hs322 := St.f3 hs321
            have hs323 := St.tk2 hs322
            refine W.regionD [(0, 0), (1, 1), (2, 2), (2, 2), (10, 10), (22, 22), (2, 2), (2, 2), (130, 130), (354, 322), (546, 546), (1026, 1026), (4095, 2049)] (fun w_ => St B w [] w_ [blk b135 (.cells [(.int .u8 ((ss.getD p118.toNat dSt10).c0)), (.int .i64 ((ss.getD p118.toNat dSt10).c1)), (.int .i64 ((ss.getD p118.toNat dSt10).c2)), (.bool ((ss.getD p118.toNat dSt10).c3)), (.int .u64 ((ss.getD p118.toNat dSt10).c4)), (.int .u64 ((ss.getD p118.toNat dSt10).c5)), (.int .u64 ((ss.getD p118.toNat dSt10).c6)), (.int .i64 ((ss.getD p118.toNat dSt10).c7)), (.int .u64 ((ss.getD p118.toNat dSt10).c8)), (.int .u64 ((ss.getD p118.toNat dSt10).c9)), (.string ((ss.getD p118.toNat dSt10).c10)), (.bool ((ss.getD p118.toNat dSt10).c11))].toArray 68 (0, 0)), kU64.row a29 c30 r31]) (by kernel_rfl) hs323 ?_
            refine any_val (v := (.bool (r145 == r150))) (v' := (.bool (r145 == r150))) 0 (by kernel_rfl) (fun _ => by kernel_rfl) rfl hs323 ?_
            refine any_val (v := (.bool (r145 == r150))) (v' := (.bool (r145 == r150))) 1 (by kernel_rfl) (fun _ => by kernel_rfl) rfl hs323 ?_
            rcases Bool.eq_false_or_eq_true (r145 == r150) with h324 | h324
            ·
             have h324p : ((r145 = true) ↔ (r150 = true)) := beq_yes Iff.rfl Iff.rfl h324
             replace hm := ite_yes hm h324p
             refine any_set 64 (v := .bool true) (eq_bool_of (by kernel_rfl) h324) ?_
             refine any_set 12 (v := .bool true) (eq_bool_of (by kernel_rfl) h324) ?_
             refine any_set 195 (v := .bool true) (eq_bool_of (by kernel_rfl) h324) ?_
             refine any_set 196 (v := .bool true) (eq_bool_of (by kernel_rfl) h324) ?_
             refine any_val (v := (.pointer (some ⟨b37, 0, none⟩))) (v' := (.pointer (some ⟨b37, 0, none⟩))) 2 (by kernel_rfl) (fun _ => by kernel_rfl) rfl hs323 ?_
             refine any_val (v := (.pointer (some ⟨b135, 1, none⟩))) (v' := (.pointer (some ⟨b135, 1, none⟩))) 3 (by kernel_rfl) (fun _ => by kernel_rfl) rfl hs323 ?_
             refine any_R 4 (by kernel_rfl) (fun _ hS_ => runs_load (ad := ⟨b135, 1, none⟩) (v := (.int .i64 ((ss.getD p118.toNat dSt10).c1))) (by kernel_rfl) (hS_.cellAt 0 rfl rfl)) hs323 ?_
             refine any_val (v := (.pointer (some ⟨b43, 0, none⟩))) (v' := (.pointer (some ⟨b43, 0, none⟩))) 6 (by kernel_rfl) (fun _ => by kernel_rfl) rfl hs323 ?_
             refine any_val (v := (.pointer (some ⟨b135, 1, none⟩))) (v' := (.pointer (some ⟨b135, 1, none⟩))) 7 (by kernel_rfl) (fun _ => by kernel_rfl) rfl hs323 ?_
             refine any_R 8 (by kernel_rfl) (fun _ hS_ => runs_load (ad := ⟨b135, 1, none⟩) (v := (.int .i64 ((ss.getD p118.toNat dSt10).c1))) (by kernel_rfl) (hS_.cellAt 0 rfl rfl)) hs323 ?_
             refine any_step 5 (by kernel_rfl) (by kernel_rfl) ?_
             obtain ⟨r325, h326, hm⟩ := bind_some hm
             refine zC11 hs320 (swipe_walk (vb := b37) (i_ := (ss.getD p118.toNat dSt10).c1) (img := r31) (l := l139) (hG2 := hG2) (hL := (hs320.oldCells hL)) (hm := h326) B _) fun w327 hs329 => ?_
             have hs330 := St.f3 hs329
             have hs331 := St.f3 hs330
             have hs332 := St.tk2 hs331
             refine ops_done (by kernel_rfl) ⟨hs332, ?_⟩
             refine any_step 9 (by kernel_rfl) (by kernel_rfl) ?_
             obtain ⟨r333, h334, hm⟩ := bind_some hm
             have hs335 := St.f1 hs329
             refine zC11 hs335 (rwipe10_walk (vb := b43) (i_ := (ss.getD p118.toNat dSt10).c1) (img := r31) (l := l140) (hm := h334) B _) fun w336 hs338 => ?_
             have hs339 := St.f3 hs338
             have hs340 := St.f3 hs339
             have hs341 := St.tk2 hs340
             refine ops_done (by kernel_rfl) ⟨hs341, ?_⟩
             refine any_val (v := (.bool (decide (r325.1 = r333.1)))) (v' := (.bool (decide (r325.1 = r333.1)))) 10 (by kernel_rfl) (fun _ => by kernel_rfl) rfl hs341 ?_
             refine any_val (v := (.bool (decide (r325.1 = r333.1)))) (v' := (.bool (decide (r325.1 = r333.1)))) 11 (by kernel_rfl) (fun _ => by kernel_rfl) rfl hs341 ?_
             refine any_val (v := (.bool (decide (r325.1 = r333.1)))) (v' := (.bool (decide (r325.1 = r333.1)))) 12 (by kernel_rfl) (fun _ => by kernel_rfl) rfl hs341 ?_
             refine any_done (by kernel_rfl) ?_
             refine normal_block ?_
             have hs342 := St.f3 hs338
             have hs343 := St.f3 hs342
             have hs344 := St.f2 hs343
             have hs345 := St.f3 hs344
             exact ⟨r325.2, r333.2, (decide (r325.1 = r333.1)), slots_intro _ (by kernel_rfl), hs345, hm⟩
            ·
             have h324p : ¬ ((r145 = true) ↔ (r150 = true)) := beq_no Iff.rfl Iff.rfl h324
             replace hm := ite_no hm h324p
             refine any_set 64 (v := .bool false) (eq_bool_of (by kernel_rfl) h324) ?_
             refine any_set 12 (v := .bool false) (eq_bool_of (by kernel_rfl) h324) ?_
             refine any_set 195 (v := .bool false) (eq_bool_of (by kernel_rfl) h324) ?_
             refine any_set 196 (v := .bool false) (eq_bool_of (by kernel_rfl) h324) ?_
             refine any_skip 2 (by kernel_rfl) (by kernel_rfl) hs323 ?_
             refine any_skip 3 (by kernel_rfl) (by kernel_rfl) hs323 ?_
             refine any_skip 4 (by kernel_rfl) (by kernel_rfl) hs323 ?_
             refine any_skip 5 (by kernel_rfl) (by kernel_rfl) hs323 ?_
             refine any_skip 6 (by kernel_rfl) (by kernel_rfl) hs323 ?_
             refine any_skip 7 (by kernel_rfl) (by kernel_rfl) hs323 ?_
             refine any_skip 8 (by kernel_rfl) (by kernel_rfl) hs323 ?_
             refine any_skip 9 (by kernel_rfl) (by kernel_rfl) hs323 ?_
             refine any_skip 10 (by kernel_rfl) (by kernel_rfl) hs323 ?_
             refine any_val (v := (.bool false)) (v' := (.bool false)) 11 (by kernel_rfl) (fun _ => by kernel_rfl) rfl hs323 ?_
             refine any_val (v := (.bool false)) (v' := (.bool false)) 12 (by kernel_rfl) (fun _ => by kernel_rfl) rfl hs323 ?_
             refine any_done (by kernel_rfl) ?_
             refine normal_block ?_
             exact ⟨l139, l140, false, slots_intro _ (by kernel_rfl), hs320, hm⟩
           ·
            obtain ⟨h319p, hm⟩ := iN hm h319
            have hs346 := hs154.drew
            have hs347 := St.f3 hs346
            have hs348 := St.f3 hs347
            have hs349 := St.tk2 hs348
            refine W.regionD [(0, 0), (1, 1), (2, 2), (2, 2), (10, 10), (2, 2), (34, 34), (86, 86), (2, 2), (2, 2), (514, 514), (2, 2), (2050, 2050), (5506, 5378), (8322, 8322), (16386, 16386), (65535, 32769)] (fun w_ => St B w [] w_ [blk b135 (.cells [(.int .u8 ((ss.getD p118.toNat dSt10).c0)), (.int .i64 ((ss.getD p118.toNat dSt10).c1)), (.int .i64 ((ss.getD p118.toNat dSt10).c2)), (.bool ((ss.getD p118.toNat dSt10).c3)), (.int .u64 ((ss.getD p118.toNat dSt10).c4)), (.int .u64 ((ss.getD p118.toNat dSt10).c5)), (.int .u64 ((ss.getD p118.toNat dSt10).c6)), (.int .i64 ((ss.getD p118.toNat dSt10).c7)), (.int .u64 ((ss.getD p118.toNat dSt10).c8)), (.int .u64 ((ss.getD p118.toNat dSt10).c9)), (.string ((ss.getD p118.toNat dSt10).c10)), (.bool ((ss.getD p118.toNat dSt10).c11))].toArray 68 (0, 0)), kU64.row a29 c30 r31]) (by kernel_rfl) hs349 ?_
            refine any_val (v := (.bool (r145 == r150))) (v' := (.bool (r145 == r150))) 0 (by kernel_rfl) (fun _ => by kernel_rfl) rfl hs349 ?_
            refine any_val (v := (.bool (r145 == r150))) (v' := (.bool (r145 == r150))) 1 (by kernel_rfl) (fun _ => by kernel_rfl) rfl hs349 ?_
            rcases Bool.eq_false_or_eq_true (r145 == r150) with h350 | h350
            ·
             have h350p : ((r145 = true) ↔ (r150 = true)) := beq_yes Iff.rfl Iff.rfl h350
             replace hm := ite_yes hm h350p
             refine any_set 64 (v := .bool true) (eq_bool_of (by kernel_rfl) h350) ?_
             refine any_set 12 (v := .bool true) (eq_bool_of (by kernel_rfl) h350) ?_
             refine any_set 68 (v := .bool true) (eq_bool_of (by kernel_rfl) h350) ?_
             refine any_set 69 (v := .bool true) (eq_bool_of (by kernel_rfl) h350) ?_
             refine any_val (v := (.pointer (some ⟨b37, 0, none⟩))) (v' := (.pointer (some ⟨b37, 0, none⟩))) 2 (by kernel_rfl) (fun _ => by kernel_rfl) rfl hs349 ?_
             refine any_val (v := (.pointer (some ⟨b135, 2, none⟩))) (v' := (.pointer (some ⟨b135, 2, none⟩))) 3 (by kernel_rfl) (fun _ => by kernel_rfl) rfl hs349 ?_
             refine any_R 4 (by kernel_rfl) (fun _ hS_ => runs_load (ad := ⟨b135, 2, none⟩) (v := (.int .i64 ((ss.getD p118.toNat dSt10).c2))) (by kernel_rfl) (hS_.cellAt 0 rfl rfl)) hs349 ?_
             refine any_val (v := (.pointer (some ⟨b135, 6, none⟩))) (v' := (.pointer (some ⟨b135, 6, none⟩))) 5 (by kernel_rfl) (fun _ => by kernel_rfl) rfl hs349 ?_
             refine any_R 6 (by kernel_rfl) (fun _ hS_ => runs_load (ad := ⟨b135, 6, none⟩) (v := (.int .u64 ((ss.getD p118.toNat dSt10).c6))) (by kernel_rfl) (hS_.cellAt 0 rfl rfl)) hs349 ?_
             refine any_val (v := (.pointer (some ⟨b43, 0, none⟩))) (v' := (.pointer (some ⟨b43, 0, none⟩))) 8 (by kernel_rfl) (fun _ => by kernel_rfl) rfl hs349 ?_
             refine any_val (v := (.pointer (some ⟨b135, 2, none⟩))) (v' := (.pointer (some ⟨b135, 2, none⟩))) 9 (by kernel_rfl) (fun _ => by kernel_rfl) rfl hs349 ?_
             refine any_R 10 (by kernel_rfl) (fun _ hS_ => runs_load (ad := ⟨b135, 2, none⟩) (v := (.int .i64 ((ss.getD p118.toNat dSt10).c2))) (by kernel_rfl) (hS_.cellAt 0 rfl rfl)) hs349 ?_
             refine any_val (v := (.pointer (some ⟨b135, 6, none⟩))) (v' := (.pointer (some ⟨b135, 6, none⟩))) 11 (by kernel_rfl) (fun _ => by kernel_rfl) rfl hs349 ?_
             refine any_R 12 (by kernel_rfl) (fun _ hS_ => runs_load (ad := ⟨b135, 6, none⟩) (v := (.int .u64 ((ss.getD p118.toNat dSt10).c6))) (by kernel_rfl) (hS_.cellAt 0 rfl rfl)) hs349 ?_
             refine any_step 7 (by kernel_rfl) (by kernel_rfl) ?_
             refine zC11 hs346 (sset_spec (b := b37) (img := r31) (l := l139) (at_ := (ss.getD p118.toNat dSt10).c2) (x_ := (ss.getD p118.toNat dSt10).c6) B _) fun w351 hs353 => ?_
             have hs354 := St.f3 hs353
             have hs355 := St.f3 hs354
             have hs356 := St.tk2 hs355
             refine ops_done (by kernel_rfl) ⟨hs356, ?_⟩
             refine any_step 13 (by kernel_rfl) (by kernel_rfl) ?_
             have hs357 := St.f1 hs353
             refine zC11 hs357 (rset_spec (b := b43) (img := r31) (l := l140) (at_ := (ss.getD p118.toNat dSt10).c2) (x_ := (ss.getD p118.toNat dSt10).c6) B _) fun w358 hs360 => ?_
             have hs361 := St.f3 hs360
             have hs362 := St.f3 hs361
             have hs363 := St.tk2 hs362
             refine ops_done (by kernel_rfl) ⟨hs363, ?_⟩
             refine any_val (v := (.bool (decide ((vwrite r31 l139 ((ss.getD p118.toNat dSt10).c2) ((ss.getD p118.toNat dSt10).c6)).1 = (vwrite r31 l140 ((ss.getD p118.toNat dSt10).c2) ((ss.getD p118.toNat dSt10).c6)).1)))) (v' := (.bool (decide ((vwrite r31 l139 ((ss.getD p118.toNat dSt10).c2) ((ss.getD p118.toNat dSt10).c6)).1 = (vwrite r31 l140 ((ss.getD p118.toNat dSt10).c2) ((ss.getD p118.toNat dSt10).c6)).1)))) 14 (by kernel_rfl) (fun _ => by kernel_rfl) rfl hs363 ?_
             refine any_val (v := (.bool (decide ((vwrite r31 l139 ((ss.getD p118.toNat dSt10).c2) ((ss.getD p118.toNat dSt10).c6)).1 = (vwrite r31 l140 ((ss.getD p118.toNat dSt10).c2) ((ss.getD p118.toNat dSt10).c6)).1)))) (v' := (.bool (decide ((vwrite r31 l139 ((ss.getD p118.toNat dSt10).c2) ((ss.getD p118.toNat dSt10).c6)).1 = (vwrite r31 l140 ((ss.getD p118.toNat dSt10).c2) ((ss.getD p118.toNat dSt10).c6)).1)))) 15 (by kernel_rfl) (fun _ => by kernel_rfl) rfl hs363 ?_
             refine any_val (v := (.bool (decide ((vwrite r31 l139 ((ss.getD p118.toNat dSt10).c2) ((ss.getD p118.toNat dSt10).c6)).1 = (vwrite r31 l140 ((ss.getD p118.toNat dSt10).c2) ((ss.getD p118.toNat dSt10).c6)).1)))) (v' := (.bool (decide ((vwrite r31 l139 ((ss.getD p118.toNat dSt10).c2) ((ss.getD p118.toNat dSt10).c6)).1 = (vwrite r31 l140 ((ss.getD p118.toNat dSt10).c2) ((ss.getD p118.toNat dSt10).c6)).1)))) 16 (by kernel_rfl) (fun _ => by kernel_rfl) rfl hs363 ?_
             refine any_done (by kernel_rfl) ?_
             refine normal_block ?_
             have hs364 := St.f3 hs360
             have hs365 := St.f3 hs364
             have hs366 := St.f2 hs365
             have hs367 := St.f3 hs366
             exact ⟨((vwrite r31 l139 ((ss.getD p118.toNat dSt10).c2) ((ss.getD p118.toNat dSt10).c6)).2), ((vwrite r31 l140 ((ss.getD p118.toNat dSt10).c2) ((ss.getD p118.toNat dSt10).c6)).2), (decide ((vwrite r31 l139 ((ss.getD p118.toNat dSt10).c2) ((ss.getD p118.toNat dSt10).c6)).1 = (vwrite r31 l140 ((ss.getD p118.toNat dSt10).c2) ((ss.getD p118.toNat dSt10).c6)).1)), slots_intro _ (by kernel_rfl), hs367, hm⟩
            ·
             have h350p : ¬ ((r145 = true) ↔ (r150 = true)) := beq_no Iff.rfl Iff.rfl h350
             replace hm := ite_no hm h350p
             refine any_set 64 (v := .bool false) (eq_bool_of (by kernel_rfl) h350) ?_
             refine any_set 12 (v := .bool false) (eq_bool_of (by kernel_rfl) h350) ?_
             refine any_set 68 (v := .bool false) (eq_bool_of (by kernel_rfl) h350) ?_
             refine any_set 69 (v := .bool false) (eq_bool_of (by kernel_rfl) h350) ?_
             refine any_skip 2 (by kernel_rfl) (by kernel_rfl) hs349 ?_
             refine any_skip 3 (by kernel_rfl) (by kernel_rfl) hs349 ?_
             refine any_skip 4 (by kernel_rfl) (by kernel_rfl) hs349 ?_
             refine any_skip 5 (by kernel_rfl) (by kernel_rfl) hs349 ?_
             refine any_skip 6 (by kernel_rfl) (by kernel_rfl) hs349 ?_
             refine any_skip 7 (by kernel_rfl) (by kernel_rfl) hs349 ?_
             refine any_skip 8 (by kernel_rfl) (by kernel_rfl) hs349 ?_
             refine any_skip 9 (by kernel_rfl) (by kernel_rfl) hs349 ?_
             refine any_skip 10 (by kernel_rfl) (by kernel_rfl) hs349 ?_
             refine any_skip 11 (by kernel_rfl) (by kernel_rfl) hs349 ?_
             refine any_skip 12 (by kernel_rfl) (by kernel_rfl) hs349 ?_
             refine any_skip 13 (by kernel_rfl) (by kernel_rfl) hs349 ?_
             refine any_skip 14 (by kernel_rfl) (by kernel_rfl) hs349 ?_
             refine any_val (v := (.bool false)) (v' := (.bool false)) 15 (by kernel_rfl) (fun _ => by kernel_rfl) rfl hs349 ?_
             refine any_val (v := (.bool false)) (v' := (.bool false)) 16 (by kernel_rfl) (fun _ => by kernel_rfl) rfl hs349 ?_
             refine any_done (by kernel_rfl) ?_
             refine normal_block ?_
             exact ⟨l139, l140, false, slots_intro _ (by kernel_rfl), hs346, hm⟩
     ·
      refine W.sr fun K368 hK368 => ?_
      refine zR 1 ?_
      refine zL ⟨b135, 11, none⟩ (.bool ((ss.getD p118.toNat dSt10).c11)) (hs138.cellAt 0 rfl rfl) ?_
      refine zD (hK368 _ _ ?_)
      refine W.cond ((ss.getD p118.toNat dSt10).c11) (by kernel_rfl) (fun h369 => ?_) (fun h369 => ?_)
      ·
       have h369p : ((ss.getD p118.toNat dSt10).c11) = true := h369
       replace hm := ite_yes hm h369p
       refine W.sr fun K370 hK370 => ?_
       refine zR 1 ?_
       have hs371 := St.f1 hs138
       refine zC11 hs371 (drop_spec (p := (.pointer (some ⟨b37, 0, none⟩))) (img := r31) (l := l116) B _) fun w372 hs374 => ?_
       refine zD (hK370 _ _ ?_)
       have hs375 := St.f2 hs374
       obtain ⟨⟨_, ia376, ic377, la378, lc379, mn380⟩, ⟨ex381, hok382⟩, hs383⟩ := St.open hs375
       have hs384 : St B w [] w372 [blk b43 (.cells [(.slice ia376 r31.length ic377), (.slice la378 l117.length lc379), (.bool mn380)].toArray 71 (0, 0)), kU64.row ia376 ic377 r31, kWr.row la378 lc379 l117, viewA (ptr b37) r31 ([]), blk b135 (.cells [(.int .u8 ((ss.getD p118.toNat dSt10).c0)), (.int .i64 ((ss.getD p118.toNat dSt10).c1)), (.int .i64 ((ss.getD p118.toNat dSt10).c2)), (.bool ((ss.getD p118.toNat dSt10).c3)), (.int .u64 ((ss.getD p118.toNat dSt10).c4)), (.int .u64 ((ss.getD p118.toNat dSt10).c5)), (.int .u64 ((ss.getD p118.toNat dSt10).c6)), (.int .i64 ((ss.getD p118.toNat dSt10).c7)), (.int .u64 ((ss.getD p118.toNat dSt10).c8)), (.int .u64 ((ss.getD p118.toNat dSt10).c9)), (.string ((ss.getD p118.toNat dSt10).c10)), (.bool ((ss.getD p118.toNat dSt10).c11))].toArray 68 (0, 0)), kU64.row a29 c30 r31] := by cases ex381; exact hs383
       have := hok382.many
       refine W.region ?_
       refine zR 3 ?_
       refine ops_store (off := 1) (cs := [(.slice ia376 r31.length ic377), (.slice la378 l117.length lc379), (.bool mn380)]) (vs := [(.slice none 0 0)]) hs384 (by kernel_rfl) (by simp) rfl (fun w385 hs386 => ?_)
       have hs387 : St B w [] w385 [blk b43 (.cells [(.slice ia376 r31.length ic377), (.slice none 0 0), (.bool mn380)].toArray 71 (0, 0)), kU64.row ia376 ic377 r31, kWr.row la378 lc379 l117, viewA (ptr b37) r31 ([]), blk b135 (.cells [(.int .u8 ((ss.getD p118.toNat dSt10).c0)), (.int .i64 ((ss.getD p118.toNat dSt10).c1)), (.int .i64 ((ss.getD p118.toNat dSt10).c2)), (.bool ((ss.getD p118.toNat dSt10).c3)), (.int .u64 ((ss.getD p118.toNat dSt10).c4)), (.int .u64 ((ss.getD p118.toNat dSt10).c5)), (.int .u64 ((ss.getD p118.toNat dSt10).c6)), (.int .i64 ((ss.getD p118.toNat dSt10).c7)), (.int .u64 ((ss.getD p118.toNat dSt10).c8)), (.int .u64 ((ss.getD p118.toNat dSt10).c9)), (.string ((ss.getD p118.toNat dSt10).c10)), (.bool ((ss.getD p118.toNat dSt10).c11))].toArray 68 (0, 0)), kU64.row a29 c30 r31] := hs386
       refine zD ?_
       have hs388 := St.knil kWr hs387
       have hs389 := St.f6 hs388
       have hs390 := St.f6 hs389
       have hs391 := St.f6 hs390
       have hs392 := St.f6 hs391
       have hs393 := St.f4 hs392
       have hs394 := St.f6 hs393
       have hs395 := St.f6 hs394
       have hs396 : St B w [] w385 [refA (ptr b43) r31 ([]), kWr.row la378 lc379 l117, viewA (ptr b37) r31 ([]), blk b135 (.cells [(.int .u8 ((ss.getD p118.toNat dSt10).c0)), (.int .i64 ((ss.getD p118.toNat dSt10).c1)), (.int .i64 ((ss.getD p118.toNat dSt10).c2)), (.bool ((ss.getD p118.toNat dSt10).c3)), (.int .u64 ((ss.getD p118.toNat dSt10).c4)), (.int .u64 ((ss.getD p118.toNat dSt10).c5)), (.int .u64 ((ss.getD p118.toNat dSt10).c6)), (.int .i64 ((ss.getD p118.toNat dSt10).c7)), (.int .u64 ((ss.getD p118.toNat dSt10).c8)), (.int .u64 ((ss.getD p118.toNat dSt10).c9)), (.string ((ss.getD p118.toNat dSt10).c10)), (.bool ((ss.getD p118.toNat dSt10).c11))].toArray 68 (0, 0)), kU64.row a29 c30 r31] := ref_close (l := []) (ia := ia376) (ic := ic377) (la := none) (lc := 0) (many := mn380) (VOk.nil hok382.size) hs395
       have hs397 := St.f4 hs396
       have hs398 := St.f4 hs397
       have hs399 := St.f2 hs398
       have hs400 := St.f4 hs399
       have hs401 := St.tk4 hs400
       exact ⟨([]), ([]), slots_intro _ (by kernel_rfl), hs401, hm⟩
      ·
       have h369p : ¬ (((ss.getD p118.toNat dSt10).c11) = true) := ne_true_of_eq_false h369
       replace hm := ite_no hm h369p
       refine W.skip ?_
       have hs402 := St.f3 hs138
       have hs403 := St.f1 hs402
       have hs404 := St.f3 hs403
       have hs405 := St.f3 hs404
       exact ⟨l116, l117, slots_intro _ (by kernel_rfl), hs405, hm⟩
    ·
     obtain ⟨h128p, hm⟩ := iN hm h128
     refine W.exit (exit_seq (exit_seq (exit_here ?_)))
     exact ⟨l116, l117, slots_intro _ (by kernel_rfl), hs122, hm⟩

end Go.Proofs.YthimamnblklkbaaDoor

namespace Go.Proofs.YthimamnblklkbaaDoor
open Go Go.RowKit
set_option linter.unusedVariables false
set_option linter.unusedSimpArgs false

variable {img : List Int} {l : List (Int × Int)}
theorem great10_ok (ss : List TSt10) : Ok (fun b : Bool => b = false → ss.length ≤ 60) (great10_M ss) := by
  unfold great10_M
  refine Ok.ite (fun _ => Ok.some (by simp)) fun h => ?_
  refine Ok.iter (fun p => 0 ≤ p) (fun p => ((ss.length : Int) - p).toNat) ?_ _ _ (by omega) (fuel_lt (by omega))
  intro k p h1 ih
  unfold great10_B0
  refine Ok.ite (fun hp => ?_) (fun _ => Ok.some fun _ => by omega)
  refine Ok.need (by omega) (Ok.ite (fun _ => Ok.some (by simp)) fun _ => Ok.need (by omega) (ih _ (by omega) (by omega)))
theorem works10_halt : Ok (· = true) ((works10_M).bind fun r => some r) := by
  rw [works10_eq]
  exact Ok.some rfl
theorem VJ.saveF {i k q re ra rb : Int} {rs : ByteArray} (h : VJ img l) (hq : U64 q) (ha : U64 ra) (hb : U64 rb) : VJ img (saveF img l i k q re ra rb rs).2 := by
  unfold Go.Proofs.YthimamnblklkbaaDoor.saveF
  split
  · exact h
  · rename_i h1
    split
    · refine h.vsets ?_
      have hm : mayF re rs = true := by
        cases hm : mayF re rs with
        | true => rfl
        | false => exact absurd (Or.inr (Or.inr (by simp [hm]))) h1
      have hmay := mayF_true.1 hm
      intro p hp
      unfold saveL saveA at hp
      simp only [List.mem_append, List.mem_cons, List.not_mem_nil, or_false, List.mem_map, List.mem_range] at hp
      rcases hp with ((rfl | rfl | rfl) | ⟨j, hj, rfl⟩) | rfl
      · unfold U64; simp only; omega
      · exact ha
      · exact hb
      · refine packF_u64 rs _ ?_
        simp only [List.getD_eq_getElem?_getD, List.getElem?_eq_getElem hj, Option.getD_some]
        exact List.getElem_mem hj
      · exact hq
    · exact h
theorem slotplays_law {ts : List TTn} {cut_ : Int} {ss : List TSt10} (hc : 0 ≤ cut_ ∧ cut_ ≤ 65535) (ht : ∀ x ∈ ts, good_Tn x) (hs : ∀ x ∈ ss, good_St10 x) : slotplays_M ts cut_ ss = some true := by
  refine Ok.true ?_
  unfold slotplays_M
  refine Ok.ite (fun _ => works10_halt) fun h40 => ?_
  refine Ok.bind (great10_ok ss) fun b hb => ?_
  refine Ok.ite (fun _ => works10_halt) fun hb2 => ?_
  have h60 := hb (by simpa using hb2)
  refine Ok.need (by omega) (Ok.need (by omega) ?_)
  refine Ok.bind (image_u64 (gw := 1) (gi := 2 + 0 % 20) (gb := 2 + 0 % 60) hc ht (by omega)) fun ws hws => ?_
  refine Ok.need (by omega) (Ok.need (by omega) ?_)
  refine Ok.iter (fun s => s.1 = s.2.1 ∧ VJ ws s.1 ∧ 0 ≤ s.2.2) (fun s => ((ss.length : Int) - s.2.2).toNat) ?_ _ _ ⟨rfl, ⟨VR.nil hws.2.1, VOk.nil (by omega)⟩, by simp⟩ (fuel_lt (by simp only; omega))
  rintro k ⟨l, l', p⟩ ⟨h1, h2, h3⟩ ih
  simp only at h1 h2 h3 ih
  subst h1
  unfold slotplays_B0
  simp only
  refine Ok.ite (fun hp => ?_) (fun hp => ?_)
  rotate_left
  · unfold slotplays_J1
    have := h2.2.many
    exact Ok.need (by omega) (Ok.yes rfl works10_halt)
  have hg : good_St10 (ss.getD p.toNat dSt10) := by
    have hpn : p.toNat < ss.length := by omega
    have : ss.getD p.toNat dSt10 ∈ ss := by simp [List.getD, hpn]
    exact hs _ this
  refine Ok.need (by omega) ?_
  have J4 : ∀ m, VJ ws m → Ok (· = true) (slotplays_J4 k p m m true) := by
    intro m hm
    unfold slotplays_J4
    exact Ok.yes rfl (Ok.need (by omega) (ih _ ⟨rfl, hm, by simp only; omega⟩ (by simp only; omega)))
  have J3 : ∀ m, VJ ws m → Ok (· = true) (slotplays_J3 ss ws k p m m) := by
    intro m hm
    unfold slotplays_J3
    generalize ss.getD p.toNat dSt10 = x at hg
    obtain ⟨g0, g1, g2, g4, g5, g6, g7, g8, g9⟩ := hg
    have u4 : U64 x.c4 := by unfold U64; omega
    have u5 : U64 x.c5 := by unfold U64; omega
    have u6 : U64 x.c6 := by unfold U64; omega
    have u8 : U64 x.c8 := by unfold U64; omega
    have u9 : U64 x.c9 := by unfold U64; omega
    rw [smay_eq, rmay_eq]
    simp only [Option.bind]
    refine Ok.ite (fun _ => ?_) fun _ => ?_
    · rw [sget_eq, rget10_eq]
      simp only
      refine Ok.yes (by simp) (Ok.yes (by simp) ?_)
      simp only [beq_self_eq_true, decide_true, Bool.and_self]
      exact J4 m hm
    refine Ok.ite (fun _ => ?_) fun _ => ?_
    · rw [sput_eq, rput10_eq]
      refine Ok.yes (by simp) ?_
      simp only [decide_true]
      exact J4 _ (hm.putF u4 u5)
    refine Ok.ite (fun _ => ?_) fun _ => ?_
    · rw [sload_eq hm.1, rload_eq hm.1]
      simp only
      refine Ok.yes (by simp) (Ok.yes (by simp) (Ok.yes (by simp) ?_))
      simp only [decide_true]
      exact J4 m hm
    refine Ok.ite (fun _ => ?_) fun _ => ?_
    · rw [ssave_eq, rsave_eq]
      refine Ok.yes (by simp) ?_
      simp only [decide_true]
      exact J4 _ (hm.saveF u6 u8 u9)
    refine Ok.ite (fun _ => ?_) fun _ => ?_
    · rw [swipe_eq, rwipe10_eq]
      refine Ok.yes (by simp) ?_
      simp only [decide_true]
      exact J4 _ hm.wipeF
    · refine Ok.yes (by simp) ?_
      simp only [decide_true]
      exact J4 _ (hm.vwrite u6)
  exact Ok.ite (fun _ => J3 [] ⟨VR.nil hws.2.1, VOk.nil (by omega)⟩) fun _ => J3 l h2
end Go.Proofs.YthimamnblklkbaaDoor
