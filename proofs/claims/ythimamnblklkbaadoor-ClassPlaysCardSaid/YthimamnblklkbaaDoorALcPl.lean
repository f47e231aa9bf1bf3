/- What the code computes, by a program. -/
import Derived.Test.YthimamnblklkbaaDoorGM
import Derived.Test.YthimamnblklkbaaDoorGC
namespace Go.Proofs.YthimamnblklkbaaDoor
open Go Go.RowKit
set_option linter.unusedSimpArgs false
set_option linter.unusedVariables false

def classplays_J3 (k55 : ((List (Int × Int)) × (List (Int × Int)) × Int) → Option (Bool)) (p54 : Int) (l80 : List (Int × Int)) (l81 : List (Int × Int)) (p82 : Bool) : Option (Bool) :=
  if p82 = true then (need (l80.length ≤ 9223372036854775806) <|
if l80 = l81 then (need (-9223372036854775808 ≤ (p54 + 1) ∧ (p54 + 1) ≤ 9223372036854775807) <|
k55 (l80, l81, (p54 + 1))) else (some false)) else (some false)

def classplays_J2 (ss : List TSt11) (r31 : List Int) (k55 : ((List (Int × Int)) × (List (Int × Int)) × Int) → Option (Bool)) (p54 : Int) (l75 : List (Int × Int)) (l76 : List (Int × Int)) : Option (Bool) :=
  if ((ss.getD p54.toNat dSt11).c0).tmod 5 = 0 then ((cof_M r31 l75 ((ss.getD p54.toNat dSt11).c1) ((ss.getD p54.toNat dSt11).c2) ((ss.getD p54.toNat dSt11).c3)).bind fun r144 =>
(rof_M r31 l76 ((ss.getD p54.toNat dSt11).c1) ((ss.getD p54.toNat dSt11).c2) ((ss.getD p54.toNat dSt11).c3)).bind fun r156 =>
need (-9223372036854775808 ≤ r144.1 ∧ r144.1 ≤ 9223372036854775807) <|
if r144.1 = r156.1 then (if r144.2.1 = r156.2.1 ∧ r144.2.2.1 = r156.2.2.1 ∧ r144.2.2.2.1 = r156.2.2.2.1 ∧ r144.2.2.2.2.1 = r156.2.2.2.2.1 then (classplays_J3 k55 p54 l75 l76 (decide (r144.2.2.2.2.2 = r156.2.2.2.2.2))) else (classplays_J3 k55 p54 l75 l76 false)) else (classplays_J3 k55 p54 l75 l76 false)) else (if ((ss.getD p54.toNat dSt11).c0).tmod 5 = 1 then ((cack_M r31 l75 ((ss.getD p54.toNat dSt11).c1) ((ss.getD p54.toNat dSt11).c2) ((ss.getD p54.toNat dSt11).c3)).bind fun r188 =>
(rack_M r31 l76 ((ss.getD p54.toNat dSt11).c1) ((ss.getD p54.toNat dSt11).c2) ((ss.getD p54.toNat dSt11).c3)).bind fun r194 =>
if r188.1 = r194.1 then (classplays_J3 k55 p54 r188.2.2 r194.2.2 (decide (r188.2.1 = r194.2.1))) else (classplays_J3 k55 p54 r188.2.2 r194.2.2 false)) else (if ((ss.getD p54.toNat dSt11).c0).tmod 5 = 2 then ((copen_M r31 l75 ((ss.getD p54.toNat dSt11).c1) ((ss.getD p54.toNat dSt11).c2)).bind fun r212 =>
(ropen_M r31 l76 ((ss.getD p54.toNat dSt11).c1) ((ss.getD p54.toNat dSt11).c2)).bind fun r218 =>
need (-9223372036854775808 ≤ r212.1 ∧ r212.1 ≤ 9223372036854775807) <|
if r212.1 = r218.1 then (classplays_J3 k55 p54 r212.2.2 r218.2.2 (decide (r212.2.1 = r218.2.1))) else (classplays_J3 k55 p54 r212.2.2 r218.2.2 false)) else (if ((ss.getD p54.toNat dSt11).c0).tmod 5 = 3 then ((cclose_M r31 l75 ((ss.getD p54.toNat dSt11).c1) ((ss.getD p54.toNat dSt11).c2)).bind fun r237 =>
(rclose_M r31 l76 ((ss.getD p54.toNat dSt11).c1) ((ss.getD p54.toNat dSt11).c2)).bind fun r243 =>
need (-9223372036854775808 ≤ r237.1 ∧ r237.1 ≤ 9223372036854775807) <|
if r237.1 = r243.1 then (classplays_J3 k55 p54 r237.2.2 r243.2.2 (decide (r237.2.1 = r243.2.1))) else (classplays_J3 k55 p54 r237.2.2 r243.2.2 false)) else ((keep11_M r31 l75 l76 ((ss.getD p54.toNat dSt11).c1) ((ss.getD p54.toNat dSt11).c3) ((ss.getD p54.toNat dSt11).c4) ((ss.getD p54.toNat dSt11).c5) ((ss.getD p54.toNat dSt11).c6) ((ss.getD p54.toNat dSt11).c7)).bind fun r259 =>
classplays_J3 k55 p54 r259.1 r259.2 true))))

def classplays_B0 (ss : List TSt11) (r31 : List Int) (k55 : ((List (Int × Int)) × (List (Int × Int)) × Int) → Option (Bool)) (l52 : List (Int × Int)) (l53 : List (Int × Int)) (p54 : Int) : Option (Bool) :=
  if p54 < (ss.length : Int) then (need (0 ≤ p54 ∧ p54 < (ss.length : Int)) <|
if ((ss.getD p54.toNat dSt11).c8) = true then (classplays_J2 ss r31 k55 p54 ([]) ([])) else (classplays_J2 ss r31 k55 p54 l52 l53)) else ((works11_M).bind fun r305 =>
some r305)

def classplays_M (ts : List TTn) (cut_ : Int) (ss : List TSt11) : Option (Bool) :=
  if (ts.length : Int) > 40 then ((works11_M).bind fun r6 =>
some r6) else ((great11_M ss).bind fun r11 =>
if r11 = true then ((works11_M).bind fun r18 =>
some r18) else (need ((0 : Int) ≤ 0 ∧ (0 : Int) ≤ 255) <|
need ((0 : Int) ≤ 0 ∧ (0 : Int) ≤ 255) <|
(image_M 1 (2 + 0 % 20) (2 + 0 % 60) ts cut_).bind fun r31 =>
need (r31.length ≤ 17592186044415) <|
need (r31.length ≤ 17592186044415) <|
iter (fun k_ s_ => classplays_B0 ss r31 k_ s_.1 s_.2.1 s_.2.2) FUEL ([], [], 0)))

set_option maxRecDepth 20000 in
set_option maxHeartbeats 4000000 in
set_option linter.unusedVariables false in
theorem classplays_walk {ts : List TTn} {cut_ : Int} {ss : List TSt11} {ta : Option Addr} {tc : Nat} {sa : Option Addr} {sc : Nat}  (B : Nat) (w : World) (hB : w.heap.size = B) (hL : CellsAt (some ⟨1, 0, none⟩) [(.int .i64 1), (.int .i64 2), (.int .i64 2)] w) (ht : CellsAt ta (kTn.cells ts) w) (hst : CellsAt sa (kSt11.cells ss) w) (hm : classplays_M ts cut_ ss = some true) : Spec Tryd.prog 14 #[(.slice ta ts.length tc), (.int .u16 cut_), (.slice sa ss.length sc)] B w [] (fun v H' => v = .bool true ∧ H' = []) := by
  refine spec_Q Tryd.func14 rfl fun hs => ?_
  unfold classplays_M at hm
  have hG2 : 1 < B := by rw [← hB]; exact lt_of_cells hL (v := .int .i64 1) rfl
  refine W.seq fun K1 hK1 => ?_
  refine W.region ?_
  refine ops_run 1 (by kernel_rfl) ?_
  refine ops_done (by kernel_rfl) ?_
  refine hK1 _ _ ?_
  clear hK1
  refine W.seq fun K2 hK2 => ?_
  refine W.seq fun K3 hK3 => ?_
  refine W.region ?_
  refine ops_run 4 (by kernel_rfl) ?_
  rcases Bool.eq_false_or_eq_true (decide ((ts.length : Int) > 40)) with h4 | h4
  ·
    have h4p : (ts.length : Int) > 40 := of_decide_eq_true h4
    replace hm := ite_yes hm h4p
    refine ops_set 34 (v := .bool true) (eq_bool_of (by kernel_rfl) h4) ?_
    refine ops_set 33 (v := .bool true) (eq_bool_of (by kernel_rfl) h4) ?_
    refine ops_run 3 (by kernel_rfl) ?_
    refine ops_done (by kernel_rfl) ?_
    refine hK3 _ _ ?_
    clear hK3
    refine W.cond_true true (by kernel_rfl) rfl ?_
    refine W.seq fun K5 hK5 => ?_
    refine W.region ?_
    obtain ⟨r6, h7, hm⟩ := bind_some hm
    refine ops_call0 hs (by kernel_rfl) (works11_walk (hG2 := hG2) (hL := (hs.oldCells hL)) (hm := h7) B _) ?_
    rintro _ _ w8 ⟨rfl, rfl⟩ hs9
    have hs10 := St.ap0 hs9
    refine ops_run 1 (by kernel_rfl) ?_
    refine ops_done (by kernel_rfl) ?_
    refine hK5 _ _ ?_
    clear hK5
    refine W.ret (ret_seq ?_)
    refine ret_of (.bool r6) (by kernel_rfl) ⟨_, ⟨congrArg Value.bool (some_inj hm), rfl⟩, hs10⟩
  ·
    have h4p : ¬ ((ts.length : Int) > 40) := of_decide_eq_false h4
    replace hm := ite_no hm h4p
    refine ops_set 34 (v := .bool false) (eq_bool_of (by kernel_rfl) h4) ?_
    refine ops_set 33 (v := .bool false) (eq_bool_of (by kernel_rfl) h4) ?_
    refine ops_run 1 (by kernel_rfl) ?_
    obtain ⟨r11, h12, hm⟩ := bind_some hm
    refine ops_call0 hs (by kernel_rfl) (great11_walk (sc := sc) (hst := (hs.oldCells hst)) (hm := h12) B _) ?_
    rintro _ _ w13 ⟨rfl, rfl⟩ hs14
    have hs15 := St.ap0 hs14
    refine ops_run 1 (by kernel_rfl) ?_
    refine ops_done (by kernel_rfl) ?_
    refine hK3 _ _ ?_
    clear hK3
    refine W.cond r11 (by kernel_rfl) (fun h16 => ?_) (fun h16 => ?_)
    ·
      have h16p : r11 = true := h16
      replace hm := ite_yes hm h16p
      refine W.seq fun K17 hK17 => ?_
      refine W.region ?_
      obtain ⟨r18, h19, hm⟩ := bind_some hm
      refine ops_call0 hs15 (by kernel_rfl) (works11_walk (hG2 := hG2) (hL := (hs15.oldCells hL)) (hm := h19) B _) ?_
      rintro _ _ w20 ⟨rfl, rfl⟩ hs21
      have hs22 := St.ap0 hs21
      refine ops_run 1 (by kernel_rfl) ?_
      refine ops_done (by kernel_rfl) ?_
      refine hK17 _ _ ?_
      clear hK17
      refine W.ret (ret_seq ?_)
      refine ret_of (.bool r18) (by kernel_rfl) ⟨_, ⟨congrArg Value.bool (some_inj hm), rfl⟩, hs22⟩
    ·
      have h16p : ¬ (r11 = true) := ne_true_of_eq_false h16
      replace hm := ite_no hm h16p
      refine W.skip ?_
      refine hK2 _ _ ?_
      clear hK2
      refine W.seq fun K23 hK23 => ?_
      refine W.region ?_
      obtain ⟨h24, hm⟩ := need_some hm
      obtain ⟨h25, hm⟩ := need_some hm
      refine ops_call0 hs15 (by kernel_rfl) (small_spec (x_ := 0) (y_ := 0) (hx := h24) (hy := h25) B _) ?_
      rintro _ _ w26 ⟨rfl, rfl⟩ hs27
      have hs28 := St.ap0 hs27
      refine ops_run 2 (by kernel_rfl) ?_
      obtain ⟨r31, h32, hm⟩ := bind_some hm
      refine ops_call0 hs28 (by kernel_rfl) (image_walk (tc := tc) (ht := (hs28.oldCells ht)) (hm := h32) B _) ?_
      rintro _ _ w33 ⟨a29, c30, rfl, rfl⟩ hs34
      have hs35 := St.ap1 hs34
      refine ops_run 1 (by kernel_rfl) ?_
      refine ops_done (by kernel_rfl) ?_
      refine hK23 _ _ ?_
      clear hK23
      refine W.seq fun K36 hK36 => ?_
      refine W.region ?_
      refine ops_run 1 (by kernel_rfl) ?_
      obtain ⟨h38, hm⟩ := need_some hm
      refine ops_call0 hs35 (by kernel_rfl) (new_spec (hc := (St.kcells kU64 hs35 0 rfl)) (hn := (St.capnil kU64 hs35 0 rfl)) (hsz := h38) B _) ?_
      rintro _ _ w39 ⟨b37, rfl, rfl⟩ hs40
      have hs41 := St.ap1 hs40
      refine ops_run 1 (by kernel_rfl) ?_
      refine ops_done (by kernel_rfl) ?_
      refine hK36 _ _ ?_
      clear hK36
      refine W.seq fun K42 hK42 => ?_
      refine W.region ?_
      refine ops_run 1 (by kernel_rfl) ?_
      obtain ⟨h44, hm⟩ := need_some hm
      refine ops_call0 hs41 (by kernel_rfl) (rnew_spec (hc := (St.kcells kU64 hs41 1 rfl)) (hn := (St.capnil kU64 hs41 1 rfl)) (hsz := h44) B _) ?_
      rintro _ _ w45 ⟨b43, rfl, rfl⟩ hs46
      have hs47 := St.ap1 hs46
      refine ops_run 1 (by kernel_rfl) ?_
      refine ops_done (by kernel_rfl) ?_
      refine hK42 _ _ ?_
      clear hK42
      refine W.seq fun K48 hK48 => ?_
      refine W.seq fun K49 hK49 => ?_
      refine W.region ?_
      refine ops_run 2 (by kernel_rfl) ?_
      refine ops_done (by kernel_rfl) ?_
      refine hK49 _ _ ?_
      clear hK49
      refine W.cond_false false (by kernel_rfl) rfl ?_
      refine W.skip ?_
      refine hK48 _ _ ?_
      clear hK48
      refine W.seq fun K50 hK50 => ?_
      refine W.seq fun K51 hK51 => ?_
      refine W.region ?_
      refine ops_run 1 (by kernel_rfl) ?_
      refine ops_done (by kernel_rfl) ?_
      refine hK51 _ _ ?_
      clear hK51
      refine W.block ?_
      have hs59 := St.f2 hs47
      have hs60 := St.f1 hs59
      have hs61 := St.f2 hs60
      refine W.loop_iter (G := (List (Int × Int)) × (List (Int × Int)) × Int) (σ := (List (Int × Int)) × (List (Int × Int)) × Int) (fun | (l52, l53, p54) => (l52, l53, p54)) (fun | (l52, l53, p54), s_, w_ => (∃ us, s_ = slots 216 [(2, (.slice sa ss.length sc)), (8, (.pointer (some ⟨b37, 0, none⟩))), (9, (.pointer (some ⟨b43, 0, none⟩))), (10, (.int .i64 p54))] us) ∧ St B w [] w_ [viewA (ptr b37) r31 l52, refA (ptr b43) r31 l53, kU64.row a29 c30 r31]) ([], [], 0) ⟨slots_intro _ (by kernel_rfl), hs61⟩ hm ?_
      rintro k55 ih56 ⟨l52, l53, p54⟩ _ w57 ⟨⟨us, rfl⟩, hs58⟩ hm
      replace hm : classplays_B0 ss r31 k55 l52 l53 p54 = some true := hm
      unfold classplays_B0 at hm
      refine W.seq fun K62 hK62 => ?_
      refine W.seq fun K63 hK63 => ?_
      refine W.region ?_
      refine ops_run 4 (by kernel_rfl) ?_
      refine ops_done (by kernel_rfl) ?_
      refine hK63 _ _ ?_
      clear hK63
      refine W.cond (decide (p54 < (ss.length : Int))) (by kernel_rfl) (fun h64 => ?_) (fun h64 => ?_)
      ·
        have h64p : p54 < (ss.length : Int) := of_decide_eq_true h64
        replace hm := ite_yes hm h64p
        refine W.skip ?_
        refine hK62 _ _ ?_
        clear hK62
        refine W.seq fun K65 hK65 => ?_
        refine W.block ?_
        refine W.seq fun K66 hK66 => ?_
        refine W.region ?_
        refine ops_run 2 (by kernel_rfl) ?_
        obtain ⟨h68, hm⟩ := need_some hm
        have hk67 := lt_toNat h68
        refine ops_R (runs_index (a := sa) (n := ss.length) (z := p54) (size := 9) p54.toNat (nat_of h68.1) hk67 (kSt11.addr (hs58.oldCells hst) hk67) (by kernel_rfl)) ?_
        refine ops_R (runs_loadAgg (cs := [(.int .u8 ((ss.getD p54.toNat dSt11).c0)), (.int .i64 ((ss.getD p54.toNat dSt11).c1)), (.int .u64 ((ss.getD p54.toNat dSt11).c2)), (.int .u64 ((ss.getD p54.toNat dSt11).c3)), (.int .i64 ((ss.getD p54.toNat dSt11).c4)), (.int .u64 ((ss.getD p54.toNat dSt11).c5)), (.int .u64 ((ss.getD p54.toNat dSt11).c6)), (.string ((ss.getD p54.toNat dSt11).c7)), (.bool ((ss.getD p54.toNat dSt11).c8))]) (by kernel_rfl) (kSt11.all (hs58.oldCells hst) hk67 dSt11 0 rfl)) ?_
        refine ops_new (fun b => .pointer (some ⟨b, 0, none⟩)) (.cells [(.int .u8 0), (.int .i64 0), (.int .u64 0), (.int .u64 0), (.int .i64 0), (.int .u64 0), (.int .u64 0), (.string ByteArray.empty), (.bool false)].toArray 110 (0, 0)) hs58 (by kernel_rfl) (fun b71 w69 hs70 => ?_)
        refine ops_store (off := 0) (cs := [(.int .u8 0), (.int .i64 0), (.int .u64 0), (.int .u64 0), (.int .i64 0), (.int .u64 0), (.int .u64 0), (.string ByteArray.empty), (.bool false)]) (vs := [(.int .u8 ((ss.getD p54.toNat dSt11).c0)), (.int .i64 ((ss.getD p54.toNat dSt11).c1)), (.int .u64 ((ss.getD p54.toNat dSt11).c2)), (.int .u64 ((ss.getD p54.toNat dSt11).c3)), (.int .i64 ((ss.getD p54.toNat dSt11).c4)), (.int .u64 ((ss.getD p54.toNat dSt11).c5)), (.int .u64 ((ss.getD p54.toNat dSt11).c6)), (.string ((ss.getD p54.toNat dSt11).c7)), (.bool ((ss.getD p54.toNat dSt11).c8))]) hs70 (by kernel_rfl) (by simp) rfl (fun w72 hs73 => ?_)
        have hs74 : St B w [] w72 [blk b71 (.cells [(.int .u8 ((ss.getD p54.toNat dSt11).c0)), (.int .i64 ((ss.getD p54.toNat dSt11).c1)), (.int .u64 ((ss.getD p54.toNat dSt11).c2)), (.int .u64 ((ss.getD p54.toNat dSt11).c3)), (.int .i64 ((ss.getD p54.toNat dSt11).c4)), (.int .u64 ((ss.getD p54.toNat dSt11).c5)), (.int .u64 ((ss.getD p54.toNat dSt11).c6)), (.string ((ss.getD p54.toNat dSt11).c7)), (.bool ((ss.getD p54.toNat dSt11).c8))].toArray 110 (0, 0)), viewA (ptr b37) r31 l52, refA (ptr b43) r31 l53, kU64.row a29 c30 r31] := hs73
        refine ops_done (by kernel_rfl) ?_
        refine hK66 _ _ ?_
        clear hK66
        refine W.seq_join (fun s_ w_ => ∃ (l75 : List (Int × Int)) (l76 : List (Int × Int)), (∃ us, s_ = slots 216 [(2, (.slice sa ss.length sc)), (8, (.pointer (some ⟨b37, 0, none⟩))), (9, (.pointer (some ⟨b43, 0, none⟩))), (10, (.int .i64 p54)), (11, (.pointer (some ⟨b71, 0, none⟩)))] us) ∧ St B w [] w_ [viewA (ptr b37) r31 l75, refA (ptr b43) r31 l76, blk b71 (.cells [(.int .u8 ((ss.getD p54.toNat dSt11).c0)), (.int .i64 ((ss.getD p54.toNat dSt11).c1)), (.int .u64 ((ss.getD p54.toNat dSt11).c2)), (.int .u64 ((ss.getD p54.toNat dSt11).c3)), (.int .i64 ((ss.getD p54.toNat dSt11).c4)), (.int .u64 ((ss.getD p54.toNat dSt11).c5)), (.int .u64 ((ss.getD p54.toNat dSt11).c6)), (.string ((ss.getD p54.toNat dSt11).c7)), (.bool ((ss.getD p54.toNat dSt11).c8))].toArray 110 (0, 0)), kU64.row a29 c30 r31] ∧ classplays_J2 ss r31 k55 p54 l75 l76 = some true) ?_ ?_
        ·
          rintro _ w77 ⟨l75, l76, ⟨us, rfl⟩, hs78, hm⟩
          unfold classplays_J2 at hm
          refine W.seq fun K79 hK79 => ?_
          refine W.region ?_
          refine ops_run 1 (by kernel_rfl) ?_
          refine ops_done (by kernel_rfl) ?_
          refine hK79 _ _ ?_
          clear hK79
          refine W.seq_join (fun s_ w_ => ∃ (l80 : List (Int × Int)) (l81 : List (Int × Int)) (p82 : Bool), (∃ us, s_ = slots 216 [(2, (.slice sa ss.length sc)), (8, (.pointer (some ⟨b37, 0, none⟩))), (9, (.pointer (some ⟨b43, 0, none⟩))), (10, (.int .i64 p54)), (12, (.bool p82))] us) ∧ St B w [] w_ [viewA (ptr b37) r31 l80, refA (ptr b43) r31 l81, blk b71 (.cells [(.int .u8 ((ss.getD p54.toNat dSt11).c0)), (.int .i64 ((ss.getD p54.toNat dSt11).c1)), (.int .u64 ((ss.getD p54.toNat dSt11).c2)), (.int .u64 ((ss.getD p54.toNat dSt11).c3)), (.int .i64 ((ss.getD p54.toNat dSt11).c4)), (.int .u64 ((ss.getD p54.toNat dSt11).c5)), (.int .u64 ((ss.getD p54.toNat dSt11).c6)), (.string ((ss.getD p54.toNat dSt11).c7)), (.bool ((ss.getD p54.toNat dSt11).c8))].toArray 110 (0, 0)), kU64.row a29 c30 r31] ∧ classplays_J3 k55 p54 l80 l81 p82 = some true) ?_ ?_
          ·
            rintro _ w83 ⟨l80, l81, p82, ⟨us, rfl⟩, hs84, hm⟩
            unfold classplays_J3 at hm
            refine W.seq fun K85 hK85 => ?_
            have hs86 := St.f1 hs84
            obtain ⟨⟨_, ia87, ic88, la89, lc90, mn91⟩, ⟨ex92, hok93⟩, hs94⟩ := St.open hs86
            have hs95 : St B w [] w83 [blk b43 (.cells [(.slice ia87 r31.length ic88), (.slice la89 l81.length lc90), (.bool mn91)].toArray 71 (0, 0)), kU64.row ia87 ic88 r31, kWr.row la89 lc90 l81, viewA (ptr b37) r31 l80, blk b71 (.cells [(.int .u8 ((ss.getD p54.toNat dSt11).c0)), (.int .i64 ((ss.getD p54.toNat dSt11).c1)), (.int .u64 ((ss.getD p54.toNat dSt11).c2)), (.int .u64 ((ss.getD p54.toNat dSt11).c3)), (.int .i64 ((ss.getD p54.toNat dSt11).c4)), (.int .u64 ((ss.getD p54.toNat dSt11).c5)), (.int .u64 ((ss.getD p54.toNat dSt11).c6)), (.string ((ss.getD p54.toNat dSt11).c7)), (.bool ((ss.getD p54.toNat dSt11).c8))].toArray 110 (0, 0)), kU64.row a29 c30 r31] := by cases ex92; exact hs94
            have := hok93.many
            have hs96 := hs95.drew
            refine W.regionD [(0, 0), (1, 1), (2, 2), (4, 4), (12, 12), (4, 4), (36, 36), (68, 68), (132, 132), (276, 276), (516, 516), (1028, 1028)] (fun w_ => St B w [] w_ [blk b43 (.cells [(.slice ia87 r31.length ic88), (.slice la89 l81.length lc90), (.bool mn91)].toArray 71 (0, 0)), kU64.row ia87 ic88 r31, kWr.row la89 lc90 l81, viewA (ptr b37) r31 l80, blk b71 (.cells [(.int .u8 ((ss.getD p54.toNat dSt11).c0)), (.int .i64 ((ss.getD p54.toNat dSt11).c1)), (.int .u64 ((ss.getD p54.toNat dSt11).c2)), (.int .u64 ((ss.getD p54.toNat dSt11).c3)), (.int .i64 ((ss.getD p54.toNat dSt11).c4)), (.int .u64 ((ss.getD p54.toNat dSt11).c5)), (.int .u64 ((ss.getD p54.toNat dSt11).c6)), (.string ((ss.getD p54.toNat dSt11).c7)), (.bool ((ss.getD p54.toNat dSt11).c8))].toArray 110 (0, 0)), kU64.row a29 c30 r31]) (by kernel_rfl) hs96 ?_
            refine any_val (v := (.bool p82)) (v' := (.bool p82)) 0 (by kernel_rfl) (fun _ => by kernel_rfl) rfl hs96 ?_
            refine any_val (v := (.bool (!p82))) (v' := (.bool (!p82))) 1 (by kernel_rfl) (fun _ => by kernel_rfl) rfl hs96 ?_
            refine any_val (v := (.bool (!p82))) (v' := (.bool (!p82))) 2 (by kernel_rfl) (fun _ => by kernel_rfl) rfl hs96 ?_
            rcases Bool.eq_false_or_eq_true (!p82) with h97 | h97
            rotate_left
            ·
              have h97p : p82 = true := (bnot_false h97)
              replace hm := ite_yes hm h97p
              refine any_set 204 (v := .bool false) (eq_bool_of (by kernel_rfl) h97) ?_
              refine any_set 205 (v := .bool false) (eq_bool_of (by kernel_rfl) h97) ?_
              refine any_val (v := (.pointer (some ⟨b37, 0, none⟩))) (v' := (.pointer (some ⟨b37, 0, none⟩))) 3 (by kernel_rfl) (fun _ => by kernel_rfl) rfl hs96 ?_
              refine any_val (v := (.pointer (some ⟨b43, 0, none⟩))) (v' := (.pointer (some ⟨b43, 0, none⟩))) 5 (by kernel_rfl) (fun _ => by kernel_rfl) rfl hs96 ?_
              refine any_val (v := (.pointer (some ⟨b43, 0, none⟩))) (v' := (.pointer (some ⟨b43, 0, none⟩))) 6 (by kernel_rfl) (fun _ => by kernel_rfl) rfl hs96 ?_
              refine any_val (v := (.pointer (some ⟨b43, 1, none⟩))) (v' := (.pointer (some ⟨b43, 1, none⟩))) 7 (by kernel_rfl) (fun _ => by kernel_rfl) rfl hs96 ?_
              refine any_R 8 (by kernel_rfl) (fun _ hS_ => runs_load (ad := ⟨b43, 1, none⟩) (v := (.slice la89 l81.length lc90)) (by kernel_rfl) (hS_.cellAt 0 rfl rfl)) hs96 ?_
              refine any_step 4 (by kernel_rfl) (by kernel_rfl) ?_
              refine ops_call0 hs96 (by kernel_rfl) (writes_spec (hv := (hs96.entAt 3 rfl viewA_at)) B _) ?_
              rintro _ _ w100 ⟨a98, c99, rfl, rfl⟩ hs101
              have hs102 := St.ap1 hs101
              have hs103 := St.f6 hs102
              have hs104 := St.f6 hs103
              have hs105 := St.f6 hs104
              have hs106 := St.f6 hs105
              have hs107 := St.f6 hs106
              have hs108 := St.f6 hs107
              have hs109 := St.tk6 hs108
              refine ops_done (by kernel_rfl) ⟨hs109, ?_⟩
              refine any_step 9 (by kernel_rfl) (by kernel_rfl) ?_
              obtain ⟨h110, hm⟩ := need_some hm
              refine ops_call0 hs102 (by kernel_rfl) (same05_spec (xs := l80) (ys := l81) (xc := c99) (yc := lc90) (n := l80.length) (m := l81.length) (hn := rfl) (hm := rfl) (hx := (St.kcells kWr hs102 0 rfl)) (hy := (St.kcells kWr hs102 3 rfl)) (hsz := h110) B _) ?_
              rintro _ _ w111 ⟨rfl, rfl⟩ hs112
              have hs113 := St.ap0 hs112
              have hs114 := St.f6 hs113
              have hs115 := St.f6 hs114
              have hs116 := St.f6 hs115
              have hs117 := St.f6 hs116
              have hs118 := St.f6 hs117
              have hs119 := St.f6 hs118
              have hs120 := St.tk6 hs119
              refine ops_done (by kernel_rfl) ⟨hs120, ?_⟩
              refine any_val (v := (.bool (!(decide (l80 = l81))))) (v' := (.bool (!(decide (l80 = l81))))) 10 (by kernel_rfl) (fun _ => by kernel_rfl) rfl hs120 ?_
              refine any_val (v := (.bool (!(decide (l80 = l81))))) (v' := (.bool (!(decide (l80 = l81))))) 11 (by kernel_rfl) (fun _ => by kernel_rfl) rfl hs120 ?_
              refine any_done (by kernel_rfl) ?_
              have hs121 := St.f6 hs113
              have hs122 := St.f6 hs121
              have hs123 := St.f6 hs122
              have hs124 := St.f3 hs123
              have hs125 := St.f6 hs124
              have hs126 := St.f6 hs125
              have hs127 := St.f6 hs126
              have hs128 : St B w [] w111 [refA (ptr b43) r31 l81, kWr.row a98 c99 l80, viewA (ptr b37) r31 l80, blk b71 (.cells [(.int .u8 ((ss.getD p54.toNat dSt11).c0)), (.int .i64 ((ss.getD p54.toNat dSt11).c1)), (.int .u64 ((ss.getD p54.toNat dSt11).c2)), (.int .u64 ((ss.getD p54.toNat dSt11).c3)), (.int .i64 ((ss.getD p54.toNat dSt11).c4)), (.int .u64 ((ss.getD p54.toNat dSt11).c5)), (.int .u64 ((ss.getD p54.toNat dSt11).c6)), (.string ((ss.getD p54.toNat dSt11).c7)), (.bool ((ss.getD p54.toNat dSt11).c8))].toArray 110 (0, 0)), kU64.row a29 c30 r31] := ref_close (l := l81) (ia := ia87) (ic := ic88) (la := la89) (lc := lc90) (many := mn91) hok93 hs127
              refine hK85 _ _ ?_
              clear hK85
              refine W.cond (!(decide (l80 = l81))) (by kernel_rfl) (fun h129 => ?_) (fun h129 => ?_)
              rotate_left
              ·
                have h129p : l80 = l81 := of_decide_eq_true (bnot_false h129)
                replace hm := ite_yes hm h129p
                refine W.skip ?_
                refine normal_block ?_
                refine hK65 _ _ ?_
                clear hK65
                refine W.region ?_
                refine ops_run 1 (by kernel_rfl) ?_
                obtain ⟨h130, hm⟩ := need_some hm
                refine ops_val (v := .int .i64 (IntKind.i64.wrap (p54 + 1))) (v' := .int .i64 (p54 + 1)) (by kernel_rfl) (congrArg (Value.int .i64) (wrap_i64 h130.1 h130.2)) ?_
                refine ops_run 1 (by kernel_rfl) ?_
                refine ops_done (by kernel_rfl) ?_
                have hs131 := St.f4 hs128
                have hs132 := St.f1 hs131
                have hs133 := St.f3 hs132
                have hs134 := St.tk3 hs133
                refine loopAt_next ?_
                exact ih56 (l80, l81, (p54 + 1)) _ _ ⟨slots_intro _ (by kernel_rfl), hs134⟩ hm
              ·
                have h129p : ¬ (l80 = l81) := of_decide_eq_false (bnot_true h129)
                replace hm := ite_no hm h129p
                refine W.seq fun K135 hK135 => ?_
                refine W.region ?_
                refine ops_run 1 (by kernel_rfl) ?_
                refine ops_done (by kernel_rfl) ?_
                refine hK135 _ _ ?_
                clear hK135
                refine W.ret (ret_block (ret_seq (ret_seq (ret_block (ret_seq ?_)))))
                have hs136 := St.tk0 hs128
                refine ret_of (.bool false) (by kernel_rfl) ⟨_, ⟨congrArg Value.bool (some_inj hm), rfl⟩, hs136⟩
            ·
              have h97p : ¬ (p82 = true) := ne_true_of_eq_false (bnot_true h97)
              replace hm := ite_no hm h97p
              refine any_set 204 (v := .bool true) (eq_bool_of (by kernel_rfl) h97) ?_
              refine any_set 205 (v := .bool true) (eq_bool_of (by kernel_rfl) h97) ?_
              refine any_skip 3 (by kernel_rfl) (by kernel_rfl) hs96 ?_
              refine any_skip 4 (by kernel_rfl) (by kernel_rfl) hs96 ?_
              refine any_skip 5 (by kernel_rfl) (by kernel_rfl) hs96 ?_
              refine any_skip 6 (by kernel_rfl) (by kernel_rfl) hs96 ?_
              refine any_skip 7 (by kernel_rfl) (by kernel_rfl) hs96 ?_
              refine any_skip 8 (by kernel_rfl) (by kernel_rfl) hs96 ?_
              refine any_skip 9 (by kernel_rfl) (by kernel_rfl) hs96 ?_
              refine any_skip 10 (by kernel_rfl) (by kernel_rfl) hs96 ?_
              refine any_val (v := (.bool true)) (v' := (.bool true)) 11 (by kernel_rfl) (fun _ => by kernel_rfl) rfl hs96 ?_
              refine any_done (by kernel_rfl) ?_
              have hs137 : St B w [] w83.drew [refA (ptr b43) r31 l81, viewA (ptr b37) r31 l80, blk b71 (.cells [(.int .u8 ((ss.getD p54.toNat dSt11).c0)), (.int .i64 ((ss.getD p54.toNat dSt11).c1)), (.int .u64 ((ss.getD p54.toNat dSt11).c2)), (.int .u64 ((ss.getD p54.toNat dSt11).c3)), (.int .i64 ((ss.getD p54.toNat dSt11).c4)), (.int .u64 ((ss.getD p54.toNat dSt11).c5)), (.int .u64 ((ss.getD p54.toNat dSt11).c6)), (.string ((ss.getD p54.toNat dSt11).c7)), (.bool ((ss.getD p54.toNat dSt11).c8))].toArray 110 (0, 0)), kU64.row a29 c30 r31] := ref_close (l := l81) (ia := ia87) (ic := ic88) (la := la89) (lc := lc90) (many := mn91) hok93 hs96
              refine hK85 _ _ ?_
              clear hK85
              refine W.cond_true true (by kernel_rfl) rfl ?_
              refine W.seq fun K138 hK138 => ?_
              refine W.region ?_
              refine ops_run 1 (by kernel_rfl) ?_
              refine ops_done (by kernel_rfl) ?_
              refine hK138 _ _ ?_
              clear hK138
              refine W.ret (ret_block (ret_seq (ret_seq (ret_block (ret_seq ?_)))))
              have hs139 := St.tk0 hs137
              refine ret_of (.bool false) (by kernel_rfl) ⟨_, ⟨congrArg Value.bool (some_inj hm), rfl⟩, hs139⟩
          ·
            refine W.seq fun K140 hK140 => ?_
            refine W.region ?_
            refine ops_run 1 (by kernel_rfl) ?_
            refine ops_R (runs_load (ad := ⟨b71, 0, none⟩) (v := (.int .u8 ((ss.getD p54.toNat dSt11).c0))) (by kernel_rfl) (hs78.cellAt 2 rfl rfl)) ?_
            refine ops_run 1 (by kernel_rfl) ?_
            refine ops_done (by kernel_rfl) ?_
            refine hK140 _ _ ?_
            clear hK140
            refine W.block ?_
            refine W.seq fun K141 hK141 => ?_
            refine W.region ?_
            refine ops_run 2 (by kernel_rfl) ?_
            refine ops_done (by kernel_rfl) ?_
            refine hK141 _ _ ?_
            clear hK141
            refine W.cond (decide (((ss.getD p54.toNat dSt11).c0).tmod 5 = 0)) (by kernel_rfl) (fun h142 => ?_) (fun h142 => ?_)
            ·
              have h142p : ((ss.getD p54.toNat dSt11).c0).tmod 5 = 0 := of_decide_eq_true h142
              replace hm := ite_yes hm h142p
              refine W.seq fun K143 hK143 => ?_
              refine W.region ?_
              refine ops_run 2 (by kernel_rfl) ?_
              refine ops_R (runs_load (ad := ⟨b71, 1, none⟩) (v := (.int .i64 ((ss.getD p54.toNat dSt11).c1))) (by kernel_rfl) (hs78.cellAt 2 rfl rfl)) ?_
              refine ops_run 1 (by kernel_rfl) ?_
              refine ops_R (runs_load (ad := ⟨b71, 2, none⟩) (v := (.int .u64 ((ss.getD p54.toNat dSt11).c2))) (by kernel_rfl) (hs78.cellAt 2 rfl rfl)) ?_
              refine ops_run 1 (by kernel_rfl) ?_
              refine ops_R (runs_load (ad := ⟨b71, 3, none⟩) (v := (.int .u64 ((ss.getD p54.toNat dSt11).c3))) (by kernel_rfl) (hs78.cellAt 2 rfl rfl)) ?_
              obtain ⟨r144, h145, hm⟩ := bind_some hm
              refine ops_call0 hs78 (by kernel_rfl) (cof_walk (i_ := (ss.getD p54.toNat dSt11).c1) (g_ := (ss.getD p54.toNat dSt11).c2) (q_ := (ss.getD p54.toNat dSt11).c3) (img := r31) (l := l75) (hL := (hs78.oldCells hL)) (hv := (hs78.entAt 0 rfl viewA_at)) (hm := h145) B _) ?_
              rintro _ _ w146 ⟨rfl, rfl⟩ hs147
              have hs148 := St.ap0 hs147
              refine ops_run 4 (by kernel_rfl) ?_
              refine ops_new (fun b => .pointer (some ⟨b, 0, none⟩)) (.cells [(.int .i64 0), (.int .u64 0), (.int .u64 0), (.string ByteArray.empty)].toArray 46 (0, 0)) hs148 (by kernel_rfl) (fun b151 w149 hs150 => ?_)
              refine ops_run 1 (by kernel_rfl) ?_
              refine ops_store (off := 0) (cs := [(.int .i64 0), (.int .u64 0), (.int .u64 0), (.string ByteArray.empty)]) (vs := [(.int .i64 r144.2.1), (.int .u64 r144.2.2.1), (.int .u64 r144.2.2.2.1), (.string r144.2.2.2.2.1)]) hs150 (by kernel_rfl) (by simp) rfl (fun w152 hs153 => ?_)
              have hs154 : St B w [] w152 [blk b151 (.cells [(.int .i64 r144.2.1), (.int .u64 r144.2.2.1), (.int .u64 r144.2.2.2.1), (.string r144.2.2.2.2.1)].toArray 46 (0, 0)), viewA (ptr b37) r31 l75, refA (ptr b43) r31 l76, blk b71 (.cells [(.int .u8 ((ss.getD p54.toNat dSt11).c0)), (.int .i64 ((ss.getD p54.toNat dSt11).c1)), (.int .u64 ((ss.getD p54.toNat dSt11).c2)), (.int .u64 ((ss.getD p54.toNat dSt11).c3)), (.int .i64 ((ss.getD p54.toNat dSt11).c4)), (.int .u64 ((ss.getD p54.toNat dSt11).c5)), (.int .u64 ((ss.getD p54.toNat dSt11).c6)), (.string ((ss.getD p54.toNat dSt11).c7)), (.bool ((ss.getD p54.toNat dSt11).c8))].toArray 110 (0, 0)), kU64.row a29 c30 r31] := hs153
              refine ops_run 1 (by kernel_rfl) ?_
              refine ops_done (by kernel_rfl) ?_
              refine hK143 _ _ ?_
              clear hK143
              refine W.seq fun K155 hK155 => ?_
              refine W.region ?_
              refine ops_run 2 (by kernel_rfl) ?_
              refine ops_R (runs_load (ad := ⟨b71, 1, none⟩) (v := (.int .i64 ((ss.getD p54.toNat dSt11).c1))) (by kernel_rfl) (hs154.cellAt 3 rfl rfl)) ?_
              refine ops_run 1 (by kernel_rfl) ?_
              refine ops_R (runs_load (ad := ⟨b71, 2, none⟩) (v := (.int .u64 ((ss.getD p54.toNat dSt11).c2))) (by kernel_rfl) (hs154.cellAt 3 rfl rfl)) ?_
              refine ops_run 1 (by kernel_rfl) ?_
              refine ops_R (runs_load (ad := ⟨b71, 3, none⟩) (v := (.int .u64 ((ss.getD p54.toNat dSt11).c3))) (by kernel_rfl) (hs154.cellAt 3 rfl rfl)) ?_
              obtain ⟨r156, h157, hm⟩ := bind_some hm
              refine ops_call0 hs154 (by kernel_rfl) (rof_walk (i_ := (ss.getD p54.toNat dSt11).c1) (g_ := (ss.getD p54.toNat dSt11).c2) (q_ := (ss.getD p54.toNat dSt11).c3) (img := r31) (l := l76) (hv := (hs154.entAt 2 rfl refA_at)) (hm := h157) B _) ?_
              rintro _ _ w158 ⟨rfl, rfl⟩ hs159
              have hs160 := St.ap0 hs159
              refine ops_run 4 (by kernel_rfl) ?_
              refine ops_new (fun b => .pointer (some ⟨b, 0, none⟩)) (.cells [(.int .i64 0), (.int .u64 0), (.int .u64 0), (.string ByteArray.empty)].toArray 46 (0, 0)) hs160 (by kernel_rfl) (fun b163 w161 hs162 => ?_)
              refine ops_run 1 (by kernel_rfl) ?_
              refine ops_store (off := 0) (cs := [(.int .i64 0), (.int .u64 0), (.int .u64 0), (.string ByteArray.empty)]) (vs := [(.int .i64 r156.2.1), (.int .u64 r156.2.2.1), (.int .u64 r156.2.2.2.1), (.string r156.2.2.2.2.1)]) hs162 (by kernel_rfl) (by simp) rfl (fun w164 hs165 => ?_)
              have hs166 : St B w [] w164 [blk b163 (.cells [(.int .i64 r156.2.1), (.int .u64 r156.2.2.1), (.int .u64 r156.2.2.2.1), (.string r156.2.2.2.2.1)].toArray 46 (0, 0)), blk b151 (.cells [(.int .i64 r144.2.1), (.int .u64 r144.2.2.1), (.int .u64 r144.2.2.2.1), (.string r144.2.2.2.2.1)].toArray 46 (0, 0)), viewA (ptr b37) r31 l75, refA (ptr b43) r31 l76, blk b71 (.cells [(.int .u8 ((ss.getD p54.toNat dSt11).c0)), (.int .i64 ((ss.getD p54.toNat dSt11).c1)), (.int .u64 ((ss.getD p54.toNat dSt11).c2)), (.int .u64 ((ss.getD p54.toNat dSt11).c3)), (.int .i64 ((ss.getD p54.toNat dSt11).c4)), (.int .u64 ((ss.getD p54.toNat dSt11).c5)), (.int .u64 ((ss.getD p54.toNat dSt11).c6)), (.string ((ss.getD p54.toNat dSt11).c7)), (.bool ((ss.getD p54.toNat dSt11).c8))].toArray 110 (0, 0)), kU64.row a29 c30 r31] := hs165
              refine ops_run 1 (by kernel_rfl) ?_
              refine ops_done (by kernel_rfl) ?_
              refine hK155 _ _ ?_
              clear hK155
              refine W.region ?_
              refine ops_run 1 (by kernel_rfl) ?_
              obtain ⟨h167, hm⟩ := need_some hm
              refine ops_val (v := .int .i64 (IntKind.i64.wrap r144.1)) (v' := .int .i64 r144.1) (by kernel_rfl) (congrArg (Value.int .i64) (wrap_i64 h167.1 h167.2)) ?_
              refine ops_run 3 (by kernel_rfl) ?_
              rcases Bool.eq_false_or_eq_true (decide (r144.1 = r156.1)) with h168 | h168
              ·
                have h168p : r144.1 = r156.1 := of_decide_eq_true h168
                replace hm := ite_yes hm h168p
                refine ops_set 103 (v := .bool true) (eq_bool_of (by kernel_rfl) h168) ?_
                refine ops_set 102 (v := .bool true) (eq_bool_of (by kernel_rfl) h168) ?_
                refine ops_R (runs_loadAgg (ad := ⟨b151, 0, none⟩) (cs := [(.int .i64 r144.2.1), (.int .u64 r144.2.2.1), (.int .u64 r144.2.2.2.1), (.string r144.2.2.2.2.1)]) (by kernel_rfl) (cells_sub (hs166.heapAt 1 rfl) rfl)) ?_
                refine ops_R (runs_loadAgg (ad := ⟨b163, 0, none⟩) (cs := [(.int .i64 r156.2.1), (.int .u64 r156.2.2.1), (.int .u64 r156.2.2.2.1), (.string r156.2.2.2.2.1)]) (by kernel_rfl) (cells_sub (hs166.heapAt 0 rfl) rfl)) ?_
                refine ops_R (v := (.bool ((decide (r144.2.1 = r156.2.1)) && ((decide (r144.2.2.1 = r156.2.2.1)) && ((decide (r144.2.2.2.1 = r156.2.2.2.1)) && ((r144.2.2.2.2.1 == r156.2.2.2.2.1) && true)))))) (runs_eq (b := ((decide (r144.2.1 = r156.2.1)) && ((decide (r144.2.2.1 = r156.2.2.1)) && ((decide (r144.2.2.2.1 = r156.2.2.2.1)) && ((r144.2.2.2.2.1 == r156.2.2.2.2.1) && true))))) (by kernel_rfl)) ?_
                refine ops_run 2 (by kernel_rfl) ?_
                rcases Bool.eq_false_or_eq_true ((decide (r144.2.1 = r156.2.1)) && ((decide (r144.2.2.1 = r156.2.2.1)) && ((decide (r144.2.2.2.1 = r156.2.2.2.1)) && ((r144.2.2.2.2.1 == r156.2.2.2.2.1) && true)))) with h169 | h169
                ·
                  have h169p : r144.2.1 = r156.2.1 ∧ r144.2.2.1 = r156.2.2.1 ∧ r144.2.2.2.1 = r156.2.2.2.1 ∧ r144.2.2.2.2.1 = r156.2.2.2.2.1 := by simpa using h169
                  replace hm := ite_yes hm h169p
                  refine ops_set 108 (v := .bool true) (eq_bool_of (by kernel_rfl) h169) ?_
                  refine ops_set 106 (v := .bool true) (eq_bool_of (by kernel_rfl) h169) ?_
                  refine ops_set 107 (v := .bool true) (eq_bool_of (by kernel_rfl) h169) ?_
                  refine ops_run 5 (by kernel_rfl) ?_
                  refine ops_done (by kernel_rfl) ?_
                  refine normal_block ?_
                  have hs170 := St.f5 hs166
                  have hs171 := St.f5 hs170
                  have hs172 := St.f5 hs171
                  have hs173 := St.f5 hs172
                  have hs174 := St.tk4 hs173
                  exact ⟨l75, l76, (decide (r144.2.2.2.2.2 = r156.2.2.2.2.2)), slots_intro _ (by kernel_rfl), hs174, hm⟩
                ·
                  have h169p : ¬ (r144.2.1 = r156.2.1 ∧ r144.2.2.1 = r156.2.2.1 ∧ r144.2.2.2.1 = r156.2.2.2.1 ∧ r144.2.2.2.2.1 = r156.2.2.2.2.1) := by simpa using h169
                  replace hm := ite_no hm h169p
                  refine ops_set 108 (v := .bool false) (eq_bool_of (by kernel_rfl) h169) ?_
                  refine ops_set 106 (v := .bool false) (eq_bool_of (by kernel_rfl) h169) ?_
                  refine ops_set 107 (v := .bool false) (eq_bool_of (by kernel_rfl) h169) ?_
                  refine ops_run 5 (by kernel_rfl) ?_
                  refine ops_done (by kernel_rfl) ?_
                  refine normal_block ?_
                  have hs175 := St.f5 hs166
                  have hs176 := St.f5 hs175
                  have hs177 := St.f5 hs176
                  have hs178 := St.f5 hs177
                  have hs179 := St.tk4 hs178
                  exact ⟨l75, l76, false, slots_intro _ (by kernel_rfl), hs179, hm⟩
              ·
                have h168p : ¬ (r144.1 = r156.1) := of_decide_eq_false h168
                replace hm := ite_no hm h168p
                refine ops_set 103 (v := .bool false) (eq_bool_of (by kernel_rfl) h168) ?_
                refine ops_set 102 (v := .bool false) (eq_bool_of (by kernel_rfl) h168) ?_
                refine ops_run 10 (by kernel_rfl) ?_
                refine ops_done (by kernel_rfl) ?_
                refine normal_block ?_
                have hs180 := St.f5 hs166
                have hs181 := St.f5 hs180
                have hs182 := St.f5 hs181
                have hs183 := St.f5 hs182
                have hs184 := St.tk4 hs183
                exact ⟨l75, l76, false, slots_intro _ (by kernel_rfl), hs184, hm⟩
            ·
              have h142p : ¬ (((ss.getD p54.toNat dSt11).c0).tmod 5 = 0) := of_decide_eq_false h142
              replace hm := ite_no hm h142p
              refine W.seq fun K185 hK185 => ?_
              refine W.region ?_
              refine ops_run 2 (by kernel_rfl) ?_
              refine ops_done (by kernel_rfl) ?_
              refine hK185 _ _ ?_
              clear hK185
              refine W.cond (decide (((ss.getD p54.toNat dSt11).c0).tmod 5 = 1)) (by kernel_rfl) (fun h186 => ?_) (fun h186 => ?_)
              ·
                have h186p : ((ss.getD p54.toNat dSt11).c0).tmod 5 = 1 := of_decide_eq_true h186
                replace hm := ite_yes hm h186p
                refine W.seq fun K187 hK187 => ?_
                refine W.region ?_
                refine ops_run 2 (by kernel_rfl) ?_
                refine ops_R (runs_load (ad := ⟨b71, 1, none⟩) (v := (.int .i64 ((ss.getD p54.toNat dSt11).c1))) (by kernel_rfl) (hs78.cellAt 2 rfl rfl)) ?_
                refine ops_run 1 (by kernel_rfl) ?_
                refine ops_R (runs_load (ad := ⟨b71, 2, none⟩) (v := (.int .u64 ((ss.getD p54.toNat dSt11).c2))) (by kernel_rfl) (hs78.cellAt 2 rfl rfl)) ?_
                refine ops_run 1 (by kernel_rfl) ?_
                refine ops_R (runs_load (ad := ⟨b71, 3, none⟩) (v := (.int .u64 ((ss.getD p54.toNat dSt11).c3))) (by kernel_rfl) (hs78.cellAt 2 rfl rfl)) ?_
                obtain ⟨r188, h189, hm⟩ := bind_some hm
                refine ops_call1 hs78 (by kernel_rfl) (cack_walk (vb := b37) (i_ := (ss.getD p54.toNat dSt11).c1) (g_ := (ss.getD p54.toNat dSt11).c2) (q_ := (ss.getD p54.toNat dSt11).c3) (img := r31) (l := l75) (hG2 := hG2) (hL := (hs78.oldCells hL)) (hm := h189) B _) ?_
                rintro _ _ w190 ⟨rfl, rfl⟩ hs191
                have hs192 := St.ap1 hs191
                refine ops_run 5 (by kernel_rfl) ?_
                refine ops_done (by kernel_rfl) ?_
                refine hK187 _ _ ?_
                clear hK187
                refine W.seq fun K193 hK193 => ?_
                refine W.region ?_
                refine ops_run 2 (by kernel_rfl) ?_
                refine ops_R (runs_load (ad := ⟨b71, 1, none⟩) (v := (.int .i64 ((ss.getD p54.toNat dSt11).c1))) (by kernel_rfl) (hs192.cellAt 2 rfl rfl)) ?_
                refine ops_run 1 (by kernel_rfl) ?_
                refine ops_R (runs_load (ad := ⟨b71, 2, none⟩) (v := (.int .u64 ((ss.getD p54.toNat dSt11).c2))) (by kernel_rfl) (hs192.cellAt 2 rfl rfl)) ?_
                refine ops_run 1 (by kernel_rfl) ?_
                refine ops_R (runs_load (ad := ⟨b71, 3, none⟩) (v := (.int .u64 ((ss.getD p54.toNat dSt11).c3))) (by kernel_rfl) (hs192.cellAt 2 rfl rfl)) ?_
                obtain ⟨r194, h195, hm⟩ := bind_some hm
                have hs196 := St.f1 hs192
                refine ops_call1 hs196 (by kernel_rfl) (rack_walk (vb := b43) (i_ := (ss.getD p54.toNat dSt11).c1) (g_ := (ss.getD p54.toNat dSt11).c2) (q_ := (ss.getD p54.toNat dSt11).c3) (img := r31) (l := l76) (hm := h195) B _) ?_
                rintro _ _ w197 ⟨rfl, rfl⟩ hs198
                have hs199 := St.ap1 hs198
                refine ops_run 5 (by kernel_rfl) ?_
                refine ops_done (by kernel_rfl) ?_
                refine hK193 _ _ ?_
                clear hK193
                refine W.region ?_
                refine ops_run 4 (by kernel_rfl) ?_
                rcases Bool.eq_false_or_eq_true (decide (r188.1 = r194.1)) with h200 | h200
                ·
                  have h200p : r188.1 = r194.1 := of_decide_eq_true h200
                  replace hm := ite_yes hm h200p
                  refine ops_set 140 (v := .bool true) (eq_bool_of (by kernel_rfl) h200) ?_
                  refine ops_set 139 (v := .bool true) (eq_bool_of (by kernel_rfl) h200) ?_
                  refine ops_run 5 (by kernel_rfl) ?_
                  refine ops_done (by kernel_rfl) ?_
                  refine normal_block ?_
                  have hs201 := St.f3 hs199
                  have hs202 := St.f3 hs201
                  have hs203 := St.f2 hs202
                  have hs204 := St.f3 hs203
                  exact ⟨r188.2.2, r194.2.2, (decide (r188.2.1 = r194.2.1)), slots_intro _ (by kernel_rfl), hs204, hm⟩
                ·
                  have h200p : ¬ (r188.1 = r194.1) := of_decide_eq_false h200
                  replace hm := ite_no hm h200p
                  refine ops_set 140 (v := .bool false) (eq_bool_of (by kernel_rfl) h200) ?_
                  refine ops_set 139 (v := .bool false) (eq_bool_of (by kernel_rfl) h200) ?_
                  refine ops_run 5 (by kernel_rfl) ?_
                  refine ops_done (by kernel_rfl) ?_
                  refine normal_block ?_
                  have hs205 := St.f3 hs199
                  have hs206 := St.f3 hs205
                  have hs207 := St.f2 hs206
                  have hs208 := St.f3 hs207
                  exact ⟨r188.2.2, r194.2.2, false, slots_intro _ (by kernel_rfl), hs208, hm⟩
              ·
                have h186p : ¬ (((ss.getD p54.toNat dSt11).c0).tmod 5 = 1) := of_decide_eq_false h186
                replace hm := ite_no hm h186p
                refine W.seq fun K209 hK209 => ?_
                refine W.region ?_
                refine ops_run 2 (by kernel_rfl) ?_
                refine ops_done (by kernel_rfl) ?_
                refine hK209 _ _ ?_
                clear hK209
                refine W.cond (decide (((ss.getD p54.toNat dSt11).c0).tmod 5 = 2)) (by kernel_rfl) (fun h210 => ?_) (fun h210 => ?_)
                ·
                  have h210p : ((ss.getD p54.toNat dSt11).c0).tmod 5 = 2 := of_decide_eq_true h210
                  replace hm := ite_yes hm h210p
                  refine W.seq fun K211 hK211 => ?_
                  refine W.region ?_
                  refine ops_run 2 (by kernel_rfl) ?_
                  refine ops_R (runs_load (ad := ⟨b71, 1, none⟩) (v := (.int .i64 ((ss.getD p54.toNat dSt11).c1))) (by kernel_rfl) (hs78.cellAt 2 rfl rfl)) ?_
                  refine ops_run 1 (by kernel_rfl) ?_
                  refine ops_R (runs_load (ad := ⟨b71, 2, none⟩) (v := (.int .u64 ((ss.getD p54.toNat dSt11).c2))) (by kernel_rfl) (hs78.cellAt 2 rfl rfl)) ?_
                  obtain ⟨r212, h213, hm⟩ := bind_some hm
                  refine ops_call1 hs78 (by kernel_rfl) (copen_walk (vb := b37) (i_ := (ss.getD p54.toNat dSt11).c1) (g_ := (ss.getD p54.toNat dSt11).c2) (img := r31) (l := l75) (hG2 := hG2) (hL := (hs78.oldCells hL)) (hm := h213) B _) ?_
                  rintro _ _ w214 ⟨rfl, rfl⟩ hs215
                  have hs216 := St.ap1 hs215
                  refine ops_run 5 (by kernel_rfl) ?_
                  refine ops_done (by kernel_rfl) ?_
                  refine hK211 _ _ ?_
                  clear hK211
                  refine W.seq fun K217 hK217 => ?_
                  refine W.region ?_
                  refine ops_run 2 (by kernel_rfl) ?_
                  refine ops_R (runs_load (ad := ⟨b71, 1, none⟩) (v := (.int .i64 ((ss.getD p54.toNat dSt11).c1))) (by kernel_rfl) (hs216.cellAt 2 rfl rfl)) ?_
                  refine ops_run 1 (by kernel_rfl) ?_
                  refine ops_R (runs_load (ad := ⟨b71, 2, none⟩) (v := (.int .u64 ((ss.getD p54.toNat dSt11).c2))) (by kernel_rfl) (hs216.cellAt 2 rfl rfl)) ?_
                  obtain ⟨r218, h219, hm⟩ := bind_some hm
                  have hs220 := St.f1 hs216
                  refine ops_call1 hs220 (by kernel_rfl) (ropen_walk (vb := b43) (i_ := (ss.getD p54.toNat dSt11).c1) (g_ := (ss.getD p54.toNat dSt11).c2) (img := r31) (l := l76) (hm := h219) B _) ?_
                  rintro _ _ w221 ⟨rfl, rfl⟩ hs222
                  have hs223 := St.ap1 hs222
                  refine ops_run 5 (by kernel_rfl) ?_
                  refine ops_done (by kernel_rfl) ?_
                  refine hK217 _ _ ?_
                  clear hK217
                  refine W.region ?_
                  refine ops_run 1 (by kernel_rfl) ?_
                  obtain ⟨h224, hm⟩ := need_some hm
                  refine ops_val (v := .int .i64 (IntKind.i64.wrap r212.1)) (v' := .int .i64 r212.1) (by kernel_rfl) (congrArg (Value.int .i64) (wrap_i64 h224.1 h224.2)) ?_
                  refine ops_run 3 (by kernel_rfl) ?_
                  rcases Bool.eq_false_or_eq_true (decide (r212.1 = r218.1)) with h225 | h225
                  ·
                    have h225p : r212.1 = r218.1 := of_decide_eq_true h225
                    replace hm := ite_yes hm h225p
                    refine ops_set 169 (v := .bool true) (eq_bool_of (by kernel_rfl) h225) ?_
                    refine ops_set 168 (v := .bool true) (eq_bool_of (by kernel_rfl) h225) ?_
                    refine ops_run 5 (by kernel_rfl) ?_
                    refine ops_done (by kernel_rfl) ?_
                    refine normal_block ?_
                    have hs226 := St.f3 hs223
                    have hs227 := St.f3 hs226
                    have hs228 := St.f2 hs227
                    have hs229 := St.f3 hs228
                    exact ⟨r212.2.2, r218.2.2, (decide (r212.2.1 = r218.2.1)), slots_intro _ (by kernel_rfl), hs229, hm⟩
                  ·
                    have h225p : ¬ (r212.1 = r218.1) := of_decide_eq_false h225
                    replace hm := ite_no hm h225p
                    refine ops_set 169 (v := .bool false) (eq_bool_of (by kernel_rfl) h225) ?_
                    refine ops_set 168 (v := .bool false) (eq_bool_of (by kernel_rfl) h225) ?_
                    refine ops_run 5 (by kernel_rfl) ?_
                    refine ops_done (by kernel_rfl) ?_
                    refine normal_block ?_
                    have hs230 := St.f3 hs223
                    have hs231 := St.f3 hs230
                    have hs232 := St.f2 hs231
                    have hs233 := St.f3 hs232
                    exact ⟨r212.2.2, r218.2.2, false, slots_intro _ (by kernel_rfl), hs233, hm⟩
                ·
                  have h210p : ¬ (((ss.getD p54.toNat dSt11).c0).tmod 5 = 2) := of_decide_eq_false h210
                  replace hm := ite_no hm h210p
                  refine W.seq fun K234 hK234 => ?_
                  refine W.region ?_
                  refine ops_run 2 (by kernel_rfl) ?_
                  refine ops_done (by kernel_rfl) ?_
                  refine hK234 _ _ ?_
                  clear hK234
                  refine W.cond (decide (((ss.getD p54.toNat dSt11).c0).tmod 5 = 3)) (by kernel_rfl) (fun h235 => ?_) (fun h235 => ?_)
                  ·
                    have h235p : ((ss.getD p54.toNat dSt11).c0).tmod 5 = 3 := of_decide_eq_true h235
                    replace hm := ite_yes hm h235p
                    refine W.seq fun K236 hK236 => ?_
                    refine W.region ?_
                    refine ops_run 2 (by kernel_rfl) ?_
                    refine ops_R (runs_load (ad := ⟨b71, 1, none⟩) (v := (.int .i64 ((ss.getD p54.toNat dSt11).c1))) (by kernel_rfl) (hs78.cellAt 2 rfl rfl)) ?_
                    refine ops_run 1 (by kernel_rfl) ?_
                    refine ops_R (runs_load (ad := ⟨b71, 2, none⟩) (v := (.int .u64 ((ss.getD p54.toNat dSt11).c2))) (by kernel_rfl) (hs78.cellAt 2 rfl rfl)) ?_
                    obtain ⟨r237, h238, hm⟩ := bind_some hm
                    refine ops_call1 hs78 (by kernel_rfl) (cclose_walk (vb := b37) (i_ := (ss.getD p54.toNat dSt11).c1) (g_ := (ss.getD p54.toNat dSt11).c2) (img := r31) (l := l75) (hG2 := hG2) (hL := (hs78.oldCells hL)) (hm := h238) B _) ?_
                    rintro _ _ w239 ⟨rfl, rfl⟩ hs240
                    have hs241 := St.ap1 hs240
                    refine ops_run 5 (by kernel_rfl) ?_
                    refine ops_done (by kernel_rfl) ?_
                    refine hK236 _ _ ?_
                    clear hK236
                    refine W.seq fun K242 hK242 => ?_
                    refine W.region ?_
                    refine ops_run 2 (by kernel_rfl) ?_
                    refine ops_R (runs_load (ad := ⟨b71, 1, none⟩) (v := (.int .i64 ((ss.getD p54.toNat dSt11).c1))) (by kernel_rfl) (hs241.cellAt 2 rfl rfl)) ?_
                    refine ops_run 1 (by kernel_rfl) ?_
                    refine ops_R (runs_load (ad := ⟨b71, 2, none⟩) (v := (.int .u64 ((ss.getD p54.toNat dSt11).c2))) (by kernel_rfl) (hs241.cellAt 2 rfl rfl)) ?_
                    obtain ⟨r243, h244, hm⟩ := bind_some hm
                    have hs245 := St.f1 hs241
                    refine ops_call1 hs245 (by kernel_rfl) (rclose_walk (vb := b43) (i_ := (ss.getD p54.toNat dSt11).c1) (g_ := (ss.getD p54.toNat dSt11).c2) (img := r31) (l := l76) (hm := h244) B _) ?_
                    rintro _ _ w246 ⟨rfl, rfl⟩ hs247
                    have hs248 := St.ap1 hs247
                    refine ops_run 5 (by kernel_rfl) ?_
                    refine ops_done (by kernel_rfl) ?_
                    refine hK242 _ _ ?_
                    clear hK242
                    refine W.region ?_
                    refine ops_run 1 (by kernel_rfl) ?_
                    obtain ⟨h249, hm⟩ := need_some hm
                    refine ops_val (v := .int .i64 (IntKind.i64.wrap r237.1)) (v' := .int .i64 r237.1) (by kernel_rfl) (congrArg (Value.int .i64) (wrap_i64 h249.1 h249.2)) ?_
                    refine ops_run 3 (by kernel_rfl) ?_
                    rcases Bool.eq_false_or_eq_true (decide (r237.1 = r243.1)) with h250 | h250
                    ·
                      have h250p : r237.1 = r243.1 := of_decide_eq_true h250
                      replace hm := ite_yes hm h250p
                      refine ops_set 198 (v := .bool true) (eq_bool_of (by kernel_rfl) h250) ?_
                      refine ops_set 197 (v := .bool true) (eq_bool_of (by kernel_rfl) h250) ?_
                      refine ops_run 5 (by kernel_rfl) ?_
                      refine ops_done (by kernel_rfl) ?_
                      refine normal_block ?_
                      have hs251 := St.f3 hs248
                      have hs252 := St.f3 hs251
                      have hs253 := St.f2 hs252
                      have hs254 := St.f3 hs253
                      exact ⟨r237.2.2, r243.2.2, (decide (r237.2.1 = r243.2.1)), slots_intro _ (by kernel_rfl), hs254, hm⟩
                    ·
                      have h250p : ¬ (r237.1 = r243.1) := of_decide_eq_false h250
                      replace hm := ite_no hm h250p
                      refine ops_set 198 (v := .bool false) (eq_bool_of (by kernel_rfl) h250) ?_
                      refine ops_set 197 (v := .bool false) (eq_bool_of (by kernel_rfl) h250) ?_
                      refine ops_run 5 (by kernel_rfl) ?_
                      refine ops_done (by kernel_rfl) ?_
                      refine normal_block ?_
                      have hs255 := St.f3 hs248
                      have hs256 := St.f3 hs255
                      have hs257 := St.f2 hs256
                      have hs258 := St.f3 hs257
                      exact ⟨r237.2.2, r243.2.2, false, slots_intro _ (by kernel_rfl), hs258, hm⟩
                  ·
                    have h235p : ¬ (((ss.getD p54.toNat dSt11).c0).tmod 5 = 3) := of_decide_eq_false h235
                    replace hm := ite_no hm h235p
                    refine W.region ?_
                    refine ops_run 2 (by kernel_rfl) ?_
                    refine ops_R (runs_loadAgg (ad := ⟨b71, 0, none⟩) (cs := [(.int .u8 ((ss.getD p54.toNat dSt11).c0)), (.int .i64 ((ss.getD p54.toNat dSt11).c1)), (.int .u64 ((ss.getD p54.toNat dSt11).c2)), (.int .u64 ((ss.getD p54.toNat dSt11).c3)), (.int .i64 ((ss.getD p54.toNat dSt11).c4)), (.int .u64 ((ss.getD p54.toNat dSt11).c5)), (.int .u64 ((ss.getD p54.toNat dSt11).c6)), (.string ((ss.getD p54.toNat dSt11).c7)), (.bool ((ss.getD p54.toNat dSt11).c8))]) (by kernel_rfl) (cells_sub (hs78.heapAt 2 rfl) rfl)) ?_
                    obtain ⟨r259, h260, hm⟩ := bind_some hm
                    have hs261 := St.f1 hs78
                    have hs262 := St.f1 hs261
                    refine ops_call2 hs262 (by kernel_rfl) (keep11_walk (vb := b37) (rb := b43) (do_ := (ss.getD p54.toNat dSt11).c0) (i_ := (ss.getD p54.toNat dSt11).c1) (g_ := (ss.getD p54.toNat dSt11).c2) (q_ := (ss.getD p54.toNat dSt11).c3) (re_ := (ss.getD p54.toNat dSt11).c4) (ra_ := (ss.getD p54.toNat dSt11).c5) (rb_ := (ss.getD p54.toNat dSt11).c6) (rs_ := (ss.getD p54.toNat dSt11).c7) (dr_ := (ss.getD p54.toNat dSt11).c8) (img := r31) (l := l75) (m := l76) (hm := h260) B _) ?_
                    rintro _ _ w263 ⟨rfl, rfl⟩ hs264
                    have hs265 := St.ap2 hs264
                    refine ops_done (by kernel_rfl) ?_
                    refine normal_block ?_
                    exact ⟨r259.1, r259.2, true, slots_intro _ (by kernel_rfl), hs265, hm⟩
        ·
          refine W.seq fun K266 hK266 => ?_
          refine W.region ?_
          refine ops_run 1 (by kernel_rfl) ?_
          refine ops_R (runs_load (ad := ⟨b71, 8, none⟩) (v := (.bool ((ss.getD p54.toNat dSt11).c8))) (by kernel_rfl) (hs74.cellAt 0 rfl rfl)) ?_
          refine ops_done (by kernel_rfl) ?_
          refine hK266 _ _ ?_
          clear hK266
          refine W.cond ((ss.getD p54.toNat dSt11).c8) (by kernel_rfl) (fun h267 => ?_) (fun h267 => ?_)
          ·
            have h267p : ((ss.getD p54.toNat dSt11).c8) = true := h267
            replace hm := ite_yes hm h267p
            refine W.seq fun K268 hK268 => ?_
            refine W.region ?_
            refine ops_run 1 (by kernel_rfl) ?_
            have hs269 := St.f1 hs74
            refine ops_call1 hs269 (by kernel_rfl) (drop_spec (p := (.pointer (some ⟨b37, 0, none⟩))) (img := r31) (l := l52) B _) ?_
            rintro _ _ w270 ⟨rfl, rfl⟩ hs271
            have hs272 := St.ap1 hs271
            refine ops_done (by kernel_rfl) ?_
            refine hK268 _ _ ?_
            clear hK268
            have hs273 := St.f2 hs272
            obtain ⟨⟨_, ia274, ic275, la276, lc277, mn278⟩, ⟨ex279, hok280⟩, hs281⟩ := St.open hs273
            have hs282 : St B w [] w270 [blk b43 (.cells [(.slice ia274 r31.length ic275), (.slice la276 l53.length lc277), (.bool mn278)].toArray 71 (0, 0)), kU64.row ia274 ic275 r31, kWr.row la276 lc277 l53, viewA (ptr b37) r31 ([]), blk b71 (.cells [(.int .u8 ((ss.getD p54.toNat dSt11).c0)), (.int .i64 ((ss.getD p54.toNat dSt11).c1)), (.int .u64 ((ss.getD p54.toNat dSt11).c2)), (.int .u64 ((ss.getD p54.toNat dSt11).c3)), (.int .i64 ((ss.getD p54.toNat dSt11).c4)), (.int .u64 ((ss.getD p54.toNat dSt11).c5)), (.int .u64 ((ss.getD p54.toNat dSt11).c6)), (.string ((ss.getD p54.toNat dSt11).c7)), (.bool ((ss.getD p54.toNat dSt11).c8))].toArray 110 (0, 0)), kU64.row a29 c30 r31] := by cases ex279; exact hs281
            have := hok280.many
            refine W.region ?_
            refine ops_run 3 (by kernel_rfl) ?_
            refine ops_store (off := 1) (cs := [(.slice ia274 r31.length ic275), (.slice la276 l53.length lc277), (.bool mn278)]) (vs := [(.slice none 0 0)]) hs282 (by kernel_rfl) (by simp) rfl (fun w283 hs284 => ?_)
            have hs285 : St B w [] w283 [blk b43 (.cells [(.slice ia274 r31.length ic275), (.slice none 0 0), (.bool mn278)].toArray 71 (0, 0)), kU64.row ia274 ic275 r31, kWr.row la276 lc277 l53, viewA (ptr b37) r31 ([]), blk b71 (.cells [(.int .u8 ((ss.getD p54.toNat dSt11).c0)), (.int .i64 ((ss.getD p54.toNat dSt11).c1)), (.int .u64 ((ss.getD p54.toNat dSt11).c2)), (.int .u64 ((ss.getD p54.toNat dSt11).c3)), (.int .i64 ((ss.getD p54.toNat dSt11).c4)), (.int .u64 ((ss.getD p54.toNat dSt11).c5)), (.int .u64 ((ss.getD p54.toNat dSt11).c6)), (.string ((ss.getD p54.toNat dSt11).c7)), (.bool ((ss.getD p54.toNat dSt11).c8))].toArray 110 (0, 0)), kU64.row a29 c30 r31] := hs284
            refine ops_done (by kernel_rfl) ?_
            have hs286 := St.knil kWr hs285
            have hs287 := St.f6 hs286
            have hs288 := St.f6 hs287
            have hs289 := St.f6 hs288
            have hs290 := St.f6 hs289
            have hs291 := St.f4 hs290
            have hs292 := St.f6 hs291
            have hs293 := St.f6 hs292
            have hs294 : St B w [] w283 [refA (ptr b43) r31 ([]), kWr.row la276 lc277 l53, viewA (ptr b37) r31 ([]), blk b71 (.cells [(.int .u8 ((ss.getD p54.toNat dSt11).c0)), (.int .i64 ((ss.getD p54.toNat dSt11).c1)), (.int .u64 ((ss.getD p54.toNat dSt11).c2)), (.int .u64 ((ss.getD p54.toNat dSt11).c3)), (.int .i64 ((ss.getD p54.toNat dSt11).c4)), (.int .u64 ((ss.getD p54.toNat dSt11).c5)), (.int .u64 ((ss.getD p54.toNat dSt11).c6)), (.string ((ss.getD p54.toNat dSt11).c7)), (.bool ((ss.getD p54.toNat dSt11).c8))].toArray 110 (0, 0)), kU64.row a29 c30 r31] := ref_close (l := []) (ia := ia274) (ic := ic275) (la := none) (lc := 0) (many := mn278) (VOk.nil hok280.size) hs293
            have hs295 := St.f4 hs294
            have hs296 := St.f4 hs295
            have hs297 := St.f2 hs296
            have hs298 := St.f4 hs297
            have hs299 := St.tk4 hs298
            exact ⟨([]), ([]), slots_intro _ (by kernel_rfl), hs299, hm⟩
          ·
            have h267p : ¬ (((ss.getD p54.toNat dSt11).c8) = true) := ne_true_of_eq_false h267
            replace hm := ite_no hm h267p
            refine W.skip ?_
            have hs300 := St.f3 hs74
            have hs301 := St.f1 hs300
            have hs302 := St.f3 hs301
            have hs303 := St.f3 hs302
            exact ⟨l52, l53, slots_intro _ (by kernel_rfl), hs303, hm⟩
      ·
        have h64p : ¬ (p54 < (ss.length : Int)) := of_decide_eq_false h64
        replace hm := ite_no hm h64p
        refine W.exit (exit_seq (exit_seq (exit_here ?_)))
        refine hK50 _ _ ?_
        clear hK50
        refine W.seq fun K304 hK304 => ?_
        refine W.region ?_
        obtain ⟨r305, h306, hm⟩ := bind_some hm
        refine ops_call0 hs58 (by kernel_rfl) (works11_walk (hG2 := hG2) (hL := (hs58.oldCells hL)) (hm := h306) B _) ?_
        rintro _ _ w307 ⟨rfl, rfl⟩ hs308
        have hs309 := St.ap0 hs308
        refine ops_run 1 (by kernel_rfl) ?_
        refine ops_done (by kernel_rfl) ?_
        refine hK304 _ _ ?_
        clear hK304
        refine W.ret ?_
        have hs310 := St.tk0 hs309
        refine ret_of (.bool r305) (by kernel_rfl) ⟨_, ⟨congrArg Value.bool (some_inj hm), rfl⟩, hs310⟩

end Go.Proofs.YthimamnblklkbaaDoor
