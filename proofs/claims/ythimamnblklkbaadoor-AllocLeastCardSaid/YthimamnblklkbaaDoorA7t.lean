/- What the code computes, by a program. -/
import Derived.Test.YthimamnblklkbaaDoorGG
import Derived.Test.YthimamnblklkbaaDoorGC
namespace Go.Proofs.YthimamnblklkbaaDoor
open Go Go.RowKit
set_option linter.unusedSimpArgs false
set_option linter.unusedVariables false

def taken_M (ws : List Int) (gw : Int) (gi : Int) (gb : Int) : Option (List Int × Int × Int × Bool) :=
  need (ws.length ≤ 17592186044415) <|
need ((ws.length : Int) ≤ 1000000000000) <|
if May gw gi gb ∧ wordsOf gw gi gb ≤ (ws.length : Int) then ((atakeb_M ws ([]) gw gi gb (placeOf 7 gw gi gb 0)).bind fun r23 =>
some ((vflat ws r23.2.2), r23.1, r23.2.1, true)) else ((some (if May gw gi gb then (8 : Int) else 1)).bind fun r42 =>
some ([], 0, r42, false))

set_option maxRecDepth 20000 in
set_option maxHeartbeats 2000000 in
set_option linter.unusedVariables false in
theorem taken_walk {ws : List Int} {gw : Int} {gi : Int} {gb : Int} {wa : Option Addr} {wc : Nat} {r : List Int × Int × Int × Bool} (B : Nat) (w : World) (hG : 0 < B) (hT : CellsAt (some ⟨0, 0, none⟩) tab8 w) (hw : CellsAt wa (kU64.cells ws) w) (hw0 : wa = none → wc = 0) (hm : taken_M ws gw gi gb = some r) : Spec Tryd.prog 76 #[(.slice wa ws.length wc), (.agg #[(.int .i64 gw), (.int .i64 gi), (.int .i64 gb)])] B w [] (fun v H' => ∃ a' c', v = .tuple #[.slice a' r.1.length c', .int .i64 r.2.1, .int .i64 r.2.2.1, .bool r.2.2.2] ∧ H' = [kU64.row a' c' r.1]) := by
  refine spec_Q Tryd.func76 rfl fun hs => ?_
  unfold taken_M at hm
  refine W.seq fun K1 hK1 => ?_
  refine W.region ?_
  refine ops_new (fun b => .pointer (some ⟨b, 0, none⟩)) (.cells [(.int .i64 gw), (.int .i64 gi), (.int .i64 gb)].toArray 63 (0, 0)) hs (by kernel_rfl) (fun b4 w2 hs3 => ?_)
  refine ops_run 4 (by kernel_rfl) ?_
  refine ops_done (by kernel_rfl) ?_
  refine hK1 _ _ ?_
  clear hK1
  refine W.seq fun K5 hK5 => ?_
  refine W.region ?_
  refine ops_run 1 (by kernel_rfl) ?_
  obtain ⟨h7, hm⟩ := need_some hm
  refine ops_call0 hs3 (by kernel_rfl) (new_spec (hc := (hs3.oldCells hw)) (hn := hw0) (hsz := h7) B _) ?_
  rintro _ _ w8 ⟨b6, rfl, rfl⟩ hs9
  have hs10 := St.ap1 hs9
  refine ops_run 1 (by kernel_rfl) ?_
  refine ops_done (by kernel_rfl) ?_
  refine hK5 _ _ ?_
  clear hK5
  refine W.seq fun K11 hK11 => ?_
  refine W.region ?_
  refine ops_run 1 (by kernel_rfl) ?_
  refine ops_R (runs_loadAgg (ad := ⟨b4, 0, none⟩) (cs := [(.int .i64 gw), (.int .i64 gi), (.int .i64 gb)]) (by kernel_rfl) (cells_sub (hs10.heapAt 1 rfl) rfl)) ?_
  obtain ⟨h12, hm⟩ := need_some hm
  rcases Bool.eq_false_or_eq_true (decide (May gw gi gb ∧ wordsOf gw gi gb ≤ (ws.length : Int))) with h13 | h13
  ·
    have h13p : May gw gi gb ∧ wordsOf gw gi gb ≤ (ws.length : Int) := of_decide_eq_true h13
    replace hm := ite_yes hm h13p
    refine ops_call0 hs10 (by kernel_rfl) (anew_ok (gw := gw) (gi := gi) (gb := gb) (hv := (hs10.entAt 0 rfl viewA_at)) (hz := h12) (hP := h13p) B _) ?_
    rintro _ _ w17 ⟨b14, b15, b16, rfl, rfl⟩ hs18
    have hs19 := St.ap3 hs18
    refine ops_run 5 (by kernel_rfl) ?_
    refine ops_done (by kernel_rfl) ?_
    refine hK11 _ _ ?_
    clear hK11
    refine W.seq fun K20 hK20 => ?_
    refine W.seq fun K21 hK21 => ?_
    refine W.region ?_
    refine ops_run 10 (by kernel_rfl) ?_
    refine ops_done (by kernel_rfl) ?_
    refine hK21 _ _ ?_
    clear hK21
    refine W.cond_false false (by kernel_rfl) rfl ?_
    refine W.skip ?_
    refine hK20 _ _ ?_
    clear hK20
    refine W.seq fun K22 hK22 => ?_
    refine W.region ?_
    refine ops_run 1 (by kernel_rfl) ?_
    obtain ⟨r23, h24, hm⟩ := bind_some hm
    have hs25 := St.f3 hs19
    have hs26 := St.f3 hs25
    have hs27 := St.f3 hs26
    have hs28 := St.f3 hs27
    refine ops_call4 hs28 (by kernel_rfl) (atakeb_walk (ab := b14) (ib := b15) (bb := b16) (vb := b6) (img := ws) (l := []) (gw := gw) (gi := gi) (gb := gb) (ia := (placeOf 6 gw gi gb 0)) (ba := (placeOf 7 gw gi gb 0)) (hG := hG) (hT := (hs19.oldCells hT)) (hm := h24) B _) ?_
    rintro _ _ w29 ⟨rfl, rfl⟩ hs30
    have hs31 := St.ap4 hs30
    refine ops_run 5 (by kernel_rfl) ?_
    refine ops_done (by kernel_rfl) ?_
    refine hK22 _ _ ?_
    clear hK22
    refine W.seq fun K32 hK32 => ?_
    refine W.region ?_
    refine ops_run 1 (by kernel_rfl) ?_
    refine ops_call0 hs31 (by kernel_rfl) (flat_spec (hv := (hs31.entAt 3 rfl viewA_at)) B _) ?_
    rintro _ _ w35 ⟨a33, c34, rfl, rfl⟩ hs36
    have hs37 := St.ap1 hs36
    refine ops_run 6 (by kernel_rfl) ?_
    refine ops_done (by kernel_rfl) ?_
    refine hK32 _ _ ?_
    clear hK32
    refine W.ret ?_
    obtain rfl := some_inj hm
    have hs38 := St.tk1 hs37
    refine ret_of (.tuple #[(.slice a33 ((vflat ws r23.2.2).length) c34), (.int .i64 r23.1), (.int .i64 r23.2.1), (.bool true)]) (by kernel_rfl) ⟨_, ⟨a33, c34, rfl, rfl⟩, hs38⟩
  ·
    have h13p : ¬ (May gw gi gb ∧ wordsOf gw gi gb ≤ (ws.length : Int)) := of_decide_eq_false h13
    replace hm := ite_no hm h13p
    refine ops_call0 hs10 (by kernel_rfl) (anew_err (gw := gw) (gi := gi) (gb := gb) (hv := (hs10.entAt 0 rfl viewA_at)) (hz := h12) (hN := h13p) B _) ?_
    rintro _ _ w39 ⟨rfl, rfl⟩ hs40
    have hs41 := St.ap0 hs40
    refine ops_run 5 (by kernel_rfl) ?_
    obtain ⟨r42, h43, hm⟩ := bind_some hm
    replace h43 := some_inj h43
    refine ops_set 10 (v := .int .i64 r42) (Eq.trans (by kernel_rfl) (congrArg (Value.int .i64) h43)) ?_
    refine ops_done (by kernel_rfl) ?_
    refine hK11 _ _ ?_
    clear hK11
    refine W.seq fun K44 hK44 => ?_
    refine W.seq fun K45 hK45 => ?_
    refine W.region ?_
    refine ops_run 10 (by kernel_rfl) ?_
    refine ops_done (by kernel_rfl) ?_
    refine hK45 _ _ ?_
    clear hK45
    refine W.cond_true true (by kernel_rfl) rfl ?_
    refine W.seq fun K46 hK46 => ?_
    refine W.region ?_
    refine ops_run 5 (by kernel_rfl) ?_
    refine ops_done (by kernel_rfl) ?_
    refine hK46 _ _ ?_
    clear hK46
    refine W.ret (ret_seq ?_)
    have hs47 := St.knil kU64 hs41
    obtain rfl := some_inj hm
    have hs48 := St.tk1 hs47
    refine ret_of (.tuple #[(.slice none 0 0), (.int .i64 0), (.int .i64 r42), (.bool false)]) (by kernel_rfl) ⟨_, ⟨none, 0, rfl, rfl⟩, hs48⟩

def given_M (ws : List Int) (gw : Int) (gi : Int) (gb : Int) (n_ : Int) : Option (List Int × Int × Bool) :=
  need (ws.length ≤ 17592186044415) <|
need ((ws.length : Int) ≤ 1000000000000) <|
if May gw gi gb ∧ wordsOf gw gi gb ≤ (ws.length : Int) then ((agiveb_M ws ([]) gb (placeOf 7 gw gi gb 0) n_).bind fun r23 =>
some ((vflat ws r23.2), r23.1, true)) else ((some (if May gw gi gb then (8 : Int) else 1)).bind fun r42 =>
some ([], r42, false))

set_option maxRecDepth 20000 in
set_option maxHeartbeats 2000000 in
set_option linter.unusedVariables false in
theorem given_walk {ws : List Int} {gw : Int} {gi : Int} {gb : Int} {n_ : Int} {wa : Option Addr} {wc : Nat} {r : List Int × Int × Bool} (B : Nat) (w : World) (hG : 0 < B) (hT : CellsAt (some ⟨0, 0, none⟩) tab8 w) (hw : CellsAt wa (kU64.cells ws) w) (hw0 : wa = none → wc = 0) (hm : given_M ws gw gi gb n_ = some r) : Spec Tryd.prog 77 #[(.slice wa ws.length wc), (.agg #[(.int .i64 gw), (.int .i64 gi), (.int .i64 gb)]), (.int .i64 n_)] B w [] (fun v H' => ∃ a' c', v = .tuple #[.slice a' r.1.length c', .int .i64 r.2.1, .bool r.2.2] ∧ H' = [kU64.row a' c' r.1]) := by
  refine spec_Q Tryd.func77 rfl fun hs => ?_
  unfold given_M at hm
  refine W.seq fun K1 hK1 => ?_
  refine W.region ?_
  refine ops_new (fun b => .pointer (some ⟨b, 0, none⟩)) (.cells [(.int .i64 gw), (.int .i64 gi), (.int .i64 gb)].toArray 63 (0, 0)) hs (by kernel_rfl) (fun b4 w2 hs3 => ?_)
  refine ops_run 3 (by kernel_rfl) ?_
  refine ops_done (by kernel_rfl) ?_
  refine hK1 _ _ ?_
  clear hK1
  refine W.seq fun K5 hK5 => ?_
  refine W.region ?_
  refine ops_run 1 (by kernel_rfl) ?_
  obtain ⟨h7, hm⟩ := need_some hm
  refine ops_call0 hs3 (by kernel_rfl) (new_spec (hc := (hs3.oldCells hw)) (hn := hw0) (hsz := h7) B _) ?_
  rintro _ _ w8 ⟨b6, rfl, rfl⟩ hs9
  have hs10 := St.ap1 hs9
  refine ops_run 1 (by kernel_rfl) ?_
  refine ops_done (by kernel_rfl) ?_
  refine hK5 _ _ ?_
  clear hK5
  refine W.seq fun K11 hK11 => ?_
  refine W.region ?_
  refine ops_run 1 (by kernel_rfl) ?_
  refine ops_R (runs_loadAgg (ad := ⟨b4, 0, none⟩) (cs := [(.int .i64 gw), (.int .i64 gi), (.int .i64 gb)]) (by kernel_rfl) (cells_sub (hs10.heapAt 1 rfl) rfl)) ?_
  obtain ⟨h12, hm⟩ := need_some hm
  rcases Bool.eq_false_or_eq_true (decide (May gw gi gb ∧ wordsOf gw gi gb ≤ (ws.length : Int))) with h13 | h13
  ·
    have h13p : May gw gi gb ∧ wordsOf gw gi gb ≤ (ws.length : Int) := of_decide_eq_true h13
    replace hm := ite_yes hm h13p
    refine ops_call0 hs10 (by kernel_rfl) (anew_ok (gw := gw) (gi := gi) (gb := gb) (hv := (hs10.entAt 0 rfl viewA_at)) (hz := h12) (hP := h13p) B _) ?_
    rintro _ _ w17 ⟨b14, b15, b16, rfl, rfl⟩ hs18
    have hs19 := St.ap3 hs18
    refine ops_run 5 (by kernel_rfl) ?_
    refine ops_done (by kernel_rfl) ?_
    refine hK11 _ _ ?_
    clear hK11
    refine W.seq fun K20 hK20 => ?_
    refine W.seq fun K21 hK21 => ?_
    refine W.region ?_
    refine ops_run 10 (by kernel_rfl) ?_
    refine ops_done (by kernel_rfl) ?_
    refine hK21 _ _ ?_
    clear hK21
    refine W.cond_false false (by kernel_rfl) rfl ?_
    refine W.skip ?_
    refine hK20 _ _ ?_
    clear hK20
    refine W.seq fun K22 hK22 => ?_
    refine W.region ?_
    refine ops_run 2 (by kernel_rfl) ?_
    obtain ⟨r23, h24, hm⟩ := bind_some hm
    have hs25 := St.f3 hs19
    have hs26 := St.f3 hs25
    have hs27 := St.f3 hs26
    have hs28 := St.f3 hs27
    refine ops_call4 hs28 (by kernel_rfl) (agiveb_walk (ab := b14) (ib := b15) (bb := b16) (vb := b6) (img := ws) (l := []) (gw := gw) (gi := gi) (gb := gb) (ia := (placeOf 6 gw gi gb 0)) (ba := (placeOf 7 gw gi gb 0)) (n_ := n_) (hm := h24) B _) ?_
    rintro _ _ w29 ⟨rfl, rfl⟩ hs30
    have hs31 := St.ap4 hs30
    refine ops_run 1 (by kernel_rfl) ?_
    refine ops_done (by kernel_rfl) ?_
    refine hK22 _ _ ?_
    clear hK22
    refine W.seq fun K32 hK32 => ?_
    refine W.region ?_
    refine ops_run 1 (by kernel_rfl) ?_
    refine ops_call0 hs31 (by kernel_rfl) (flat_spec (hv := (hs31.entAt 3 rfl viewA_at)) B _) ?_
    rintro _ _ w35 ⟨a33, c34, rfl, rfl⟩ hs36
    have hs37 := St.ap1 hs36
    refine ops_run 4 (by kernel_rfl) ?_
    refine ops_done (by kernel_rfl) ?_
    refine hK32 _ _ ?_
    clear hK32
    refine W.ret ?_
    obtain rfl := some_inj hm
    have hs38 := St.tk1 hs37
    refine ret_of (.tuple #[(.slice a33 ((vflat ws r23.2).length) c34), (.int .i64 r23.1), (.bool true)]) (by kernel_rfl) ⟨_, ⟨a33, c34, rfl, rfl⟩, hs38⟩
  ·
    have h13p : ¬ (May gw gi gb ∧ wordsOf gw gi gb ≤ (ws.length : Int)) := of_decide_eq_false h13
    replace hm := ite_no hm h13p
    refine ops_call0 hs10 (by kernel_rfl) (anew_err (gw := gw) (gi := gi) (gb := gb) (hv := (hs10.entAt 0 rfl viewA_at)) (hz := h12) (hN := h13p) B _) ?_
    rintro _ _ w39 ⟨rfl, rfl⟩ hs40
    have hs41 := St.ap0 hs40
    refine ops_run 5 (by kernel_rfl) ?_
    obtain ⟨r42, h43, hm⟩ := bind_some hm
    replace h43 := some_inj h43
    refine ops_set 11 (v := .int .i64 r42) (Eq.trans (by kernel_rfl) (congrArg (Value.int .i64) h43)) ?_
    refine ops_done (by kernel_rfl) ?_
    refine hK11 _ _ ?_
    clear hK11
    refine W.seq fun K44 hK44 => ?_
    refine W.seq fun K45 hK45 => ?_
    refine W.region ?_
    refine ops_run 10 (by kernel_rfl) ?_
    refine ops_done (by kernel_rfl) ?_
    refine hK45 _ _ ?_
    clear hK45
    refine W.cond_true true (by kernel_rfl) rfl ?_
    refine W.seq fun K46 hK46 => ?_
    refine W.region ?_
    refine ops_run 4 (by kernel_rfl) ?_
    refine ops_done (by kernel_rfl) ?_
    refine hK46 _ _ ?_
    clear hK46
    refine W.ret (ret_seq ?_)
    have hs47 := St.knil kU64 hs41
    obtain rfl := some_inj hm
    have hs48 := St.tk1 hs47
    refine ret_of (.tuple #[(.slice none 0 0), (.int .i64 r42), (.bool false)]) (by kernel_rfl) ⟨_, ⟨none, 0, rfl, rfl⟩, hs48⟩

end Go.Proofs.YthimamnblklkbaaDoor
