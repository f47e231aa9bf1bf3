/- Texts, one behind the other: F6h, Pc, Pg, F7a, A7b, F7c, A7d, F06o, F7g, A7e, A3a, A3b, A3c, A3d, A3e, A5e, F5A. -/
import Derived.Test.YtmmclabkkigiaaaGreatDoorQEP3
set_option linter.unusedVariables false
set_option linter.unusedSimpArgs false
set_option maxRecDepth 20000
set_option maxHeartbeats 2000000
namespace Go.Proofs.YtmmclabkkigiaaaGreatDoor
open Go Go.RowKit
theorem ig_spec {b : Nat} {img : List Int} {l : List (Int × Int)} {gw gi gb n_ : Int} (B : Nat) (w : World) (hv : ViewAt (ptr b) img l w) : Spec Tryz.prog 81 #[(zp b), (.agg #[(zi gw), (zi gi), (zi gb)]), (zi n_)] B w [] (fun v H' => v = (.tuple #[(.agg #[(zu ((igetM img l gw gi gb n_).1.k)), (zu ((igetM img l gw gi gb n_).1.l)), (zu ((igetM img l gw gi gb n_).1.o)), (zu ((igetM img l gw gi gb n_).1.s)), (zu ((igetM img l gw gi gb n_).1.a)), (zu ((igetM img l gw gi gb n_).1.b)), (zu ((igetM img l gw gi gb n_).1.c)), (zu ((igetM img l gw gi gb n_).1.d)), (zu ((igetM img l gw gi gb n_).1.e)), (zu ((igetM img l gw gi gb n_).1.m))]), (zi ((igetM img l gw gi gb n_).2))]) ∧ H' = []) := by
 refine spec_Q Tryz.func81 rfl fun hs => ?_
 have hrg := ifind_range (img.length : Int) gw gi gb n_
 refine W.sr fun K1 hK1 => ?_
 refine zN [(zi gw), (zi gi), (zi gb)] 31 hs fun b4 w2 hs3 => ?_
 refine zN [(zu 0), (zu 0), (zu 0), (zu 0), (zu 0), (zu 0), (zu 0), (zu 0), (zu 0), (zu 0)] 153 hs3 fun b7 w5 hs6 => ?_
 refine zE 1 (hK1 _ _ ?_)
 refine W.sr fun K8 hK8 => ?_
 refine zR 1 ?_
 refine zG ⟨b4, 0, none⟩ [(zi gw), (zi gi), (zi gb)] (cells_sub (hs6.heapAt 1 rfl) rfl) ?_
 refine zR 1 ?_
 refine zC00 hs6 (ifind_spec (gw := gw) (gi := gi) (gb := gb) (n_ := n_) (hv := (viewAt_old hs6 hv)) B _) fun w9 hs11 => ?_
 refine zE 5 (hK8 _ _ ?_)
 refine W.seq fun K12 hK12 => ?_
 refine W.sr fun K13 hK13 => ?_
 refine zE 2 (hK13 _ _ ?_)
 refine W.cond (!decide ((ifind (img.length : Int) gw gi gb n_).2 = 0)) (by kernel_rfl) (fun h14 => ?_) (fun h14 => ?_)
 ·
  have h14p : ¬ ((ifind (img.length : Int) gw gi gb n_).2 = 0) := of_decide_eq_false (bnot_true h14)
  refine W.sr fun K15 hK15 => ?_
  refine zR 2 ?_
  refine zT 0 [(zu 0), (zu 0), (zu 0), (zu 0), (zu 0), (zu 0), (zu 0), (zu 0), (zu 0), (zu 0)] [(zu 0), (zu 0), (zu 0), (zu 0), (zu 0), (zu 0), (zu 0), (zu 0), (zu 0), (zu 0)] hs11 fun w16 hs18 => ?_
  refine zE 1 (hK15 _ _ ?_)
  refine W.ret (ret_seq ?_)
  have e_ : igetM img l gw gi gb n_ = (Nd.zero, (ifind (img.length : Int) gw gi gb n_).2) := by first | (exfalso; omega) | (simp only [igetM]; exact if_neg (by assumption))
  have hs19 := St.tk0 hs18
  refine ret_of (.tuple #[(.agg #[(zu 0), (zu 0), (zu 0), (zu 0), (zu 0), (zu 0), (zu 0), (zu 0), (zu 0), (zu 0)]), (zi ((ifind (img.length : Int) gw gi gb n_).2))]) (results_cell2 (ad := ⟨b7, 0, none⟩) (cs := [(zu 0), (zu 0), (zu 0), (zu 0), (zu 0), (zu 0), (zu 0), (zu 0), (zu 0), (zu 0)]) rfl (by kernel_rfl) (by kernel_rfl) (by kernel_rfl) (cells_sub (hs18.heapAt 0 rfl) rfl)) ⟨_, ⟨by rw [e_]; try rfl, rfl⟩, hs19⟩
 have h14p : (ifind (img.length : Int) gw gi gb n_).2 = 0 := of_decide_eq_true (bnot_false h14)
 refine W.skip ?_
 refine hK12 _ _ ?_
 refine W.sr fun K20 hK20 => ?_
 refine zN [(zu 0), (zu 0), (zu 0), (zu 0), (zu 0), (zu 0), (zu 0), (zu 0), (zu 0), (zu 0)] 188 hs11 fun b23 w21 hs22 => ?_
 refine zD (hK20 _ _ ?_)
 refine W.seq fun K24 hK24 => ?_
 refine W.sr fun K25 hK25 => ?_
 refine zE 1 (hK25 _ _ ?_)
 refine W.block ?_
 refine W.loop_start ?_
 refine loopAt_round ?_
 refine W.sr fun K26 hK26 => ?_
 refine zE 1 (hK26 _ _ ?_)
 refine W.seq fun K27 hK27 => ?_
 refine W.cond_true true (by kernel_rfl) rfl ?_
 refine W.skip ?_
 refine hK27 _ _ ?_
 refine W.seq fun K28 hK28 => ?_
 refine W.block ?_
 refine W.sr fun K29 hK29 => ?_
 refine zE 2 (hK29 _ _ ?_)
 refine W.region ?_
 refine zR 4 ?_
 refine zI ((ifind (img.length : Int) gw gi gb n_).1 + 0) (wrap_i64 (by omega) (by omega)) ?_
 refine zC00 hs22 (get_spec (at_ := ((ifind (img.length : Int) gw gi gb n_).1 + 0)) (hv := (viewAt_old hs22 hv)) B _) fun w30 hs32 => ?_
 refine zR 1 ?_
 refine zT 0 [(zu (vget img l ((ifind (img.length : Int) gw gi gb n_).1 + 0)))] [(zu (vget img l ((ifind (img.length : Int) gw gi gb n_).1 + 0))), (zu 0), (zu 0), (zu 0), (zu 0), (zu 0), (zu 0), (zu 0), (zu 0), (zu 0)] hs32 fun w33 hs35 => ?_
 refine zD ?_
 refine normal_block ?_
 refine hK28 _ _ ?_
 refine W.region ?_
 refine zE 2 ?_
 refine loopAt_next ?_
 refine loopAt_round ?_
 refine W.sr fun K36 hK36 => ?_
 refine zE 1 (hK36 _ _ ?_)
 refine W.seq fun K37 hK37 => ?_
 refine W.cond_true true (by kernel_rfl) rfl ?_
 refine W.skip ?_
 refine hK37 _ _ ?_
 refine W.seq fun K38 hK38 => ?_
 refine W.block ?_
 refine W.sr fun K39 hK39 => ?_
 refine zE 2 (hK39 _ _ ?_)
 refine W.region ?_
 refine zR 4 ?_
 refine zI ((ifind (img.length : Int) gw gi gb n_).1 + 1) (wrap_i64 (by omega) (by omega)) ?_
 refine zC00 hs35 (get_spec (at_ := ((ifind (img.length : Int) gw gi gb n_).1 + 1)) (hv := (viewAt_old hs35 hv)) B _) fun w40 hs42 => ?_
 refine zR 1 ?_
 refine zT 1 [(zu (vget img l ((ifind (img.length : Int) gw gi gb n_).1 + 1)))] [(zu (vget img l ((ifind (img.length : Int) gw gi gb n_).1 + 0))), (zu (vget img l ((ifind (img.length : Int) gw gi gb n_).1 + 1))), (zu 0), (zu 0), (zu 0), (zu 0), (zu 0), (zu 0), (zu 0), (zu 0)] hs42 fun w43 hs45 => ?_
 refine zD ?_
 refine normal_block ?_
 refine hK38 _ _ ?_
 refine W.region ?_
 refine zE 2 ?_
 refine loopAt_next ?_
 refine loopAt_round ?_
 refine W.sr fun K46 hK46 => ?_
 refine zE 1 (hK46 _ _ ?_)
 refine W.seq fun K47 hK47 => ?_
 refine W.cond_true true (by kernel_rfl) rfl ?_
 refine W.skip ?_
 refine hK47 _ _ ?_
 refine W.seq fun K48 hK48 => ?_
 refine W.block ?_
 refine W.sr fun K49 hK49 => ?_
 refine zE 2 (hK49 _ _ ?_)
 refine W.region ?_
 refine zR 4 ?_
 refine zI ((ifind (img.length : Int) gw gi gb n_).1 + 2) (wrap_i64 (by omega) (by omega)) ?_
 refine zC00 hs45 (get_spec (at_ := ((ifind (img.length : Int) gw gi gb n_).1 + 2)) (hv := (viewAt_old hs45 hv)) B _) fun w50 hs52 => ?_
 refine zR 1 ?_
 refine zT 2 [(zu (vget img l ((ifind (img.length : Int) gw gi gb n_).1 + 2)))] [(zu (vget img l ((ifind (img.length : Int) gw gi gb n_).1 + 0))), (zu (vget img l ((ifind (img.length : Int) gw gi gb n_).1 + 1))), (zu (vget img l ((ifind (img.length : Int) gw gi gb n_).1 + 2))), (zu 0), (zu 0), (zu 0), (zu 0), (zu 0), (zu 0), (zu 0)] hs52 fun w53 hs55 => ?_
 refine zD ?_
 refine normal_block ?_
 refine hK48 _ _ ?_
 refine W.region ?_
 refine zE 2 ?_
 refine loopAt_next ?_
 refine loopAt_round ?_
 refine W.sr fun K56 hK56 => ?_
 refine zE 1 (hK56 _ _ ?_)
 refine W.seq fun K57 hK57 => ?_
 refine W.cond_true true (by kernel_rfl) rfl ?_
 refine W.skip ?_
 refine hK57 _ _ ?_
 refine W.seq fun K58 hK58 => ?_
 refine W.block ?_
 refine W.sr fun K59 hK59 => ?_
 refine zE 2 (hK59 _ _ ?_)
 refine W.region ?_
 refine zR 4 ?_
 refine zI ((ifind (img.length : Int) gw gi gb n_).1 + 3) (wrap_i64 (by omega) (by omega)) ?_
 refine zC00 hs55 (get_spec (at_ := ((ifind (img.length : Int) gw gi gb n_).1 + 3)) (hv := (viewAt_old hs55 hv)) B _) fun w60 hs62 => ?_
 refine zR 1 ?_
 refine zT 3 [(zu (vget img l ((ifind (img.length : Int) gw gi gb n_).1 + 3)))] [(zu (vget img l ((ifind (img.length : Int) gw gi gb n_).1 + 0))), (zu (vget img l ((ifind (img.length : Int) gw gi gb n_).1 + 1))), (zu (vget img l ((ifind (img.length : Int) gw gi gb n_).1 + 2))), (zu (vget img l ((ifind (img.length : Int) gw gi gb n_).1 + 3))), (zu 0), (zu 0), (zu 0), (zu 0), (zu 0), (zu 0)] hs62 fun w63 hs65 => ?_
 refine zD ?_
 refine normal_block ?_
 refine hK58 _ _ ?_
 refine W.region ?_
 refine zE 2 ?_
 refine loopAt_next ?_
 refine loopAt_round ?_
 refine W.sr fun K66 hK66 => ?_
 refine zE 1 (hK66 _ _ ?_)
 refine W.seq fun K67 hK67 => ?_
 refine W.cond_true true (by kernel_rfl) rfl ?_
 refine W.skip ?_
 refine hK67 _ _ ?_
 refine W.seq fun K68 hK68 => ?_
 refine W.block ?_
 refine W.sr fun K69 hK69 => ?_
 refine zE 2 (hK69 _ _ ?_)
 refine W.region ?_
 refine zR 4 ?_
 refine zI ((ifind (img.length : Int) gw gi gb n_).1 + 4) (wrap_i64 (by omega) (by omega)) ?_
 refine zC00 hs65 (get_spec (at_ := ((ifind (img.length : Int) gw gi gb n_).1 + 4)) (hv := (viewAt_old hs65 hv)) B _) fun w70 hs72 => ?_
 refine zR 1 ?_
 refine zT 4 [(zu (vget img l ((ifind (img.length : Int) gw gi gb n_).1 + 4)))] [(zu (vget img l ((ifind (img.length : Int) gw gi gb n_).1 + 0))), (zu (vget img l ((ifind (img.length : Int) gw gi gb n_).1 + 1))), (zu (vget img l ((ifind (img.length : Int) gw gi gb n_).1 + 2))), (zu (vget img l ((ifind (img.length : Int) gw gi gb n_).1 + 3))), (zu (vget img l ((ifind (img.length : Int) gw gi gb n_).1 + 4))), (zu 0), (zu 0), (zu 0), (zu 0), (zu 0)] hs72 fun w73 hs75 => ?_
 refine zD ?_
 refine normal_block ?_
 refine hK68 _ _ ?_
 refine W.region ?_
 refine zE 2 ?_
 refine loopAt_next ?_
 refine loopAt_round ?_
 refine W.sr fun K76 hK76 => ?_
 refine zE 1 (hK76 _ _ ?_)
 refine W.seq fun K77 hK77 => ?_
 refine W.cond_true true (by kernel_rfl) rfl ?_
 refine W.skip ?_
 refine hK77 _ _ ?_
 refine W.seq fun K78 hK78 => ?_
 refine W.block ?_
 refine W.sr fun K79 hK79 => ?_
 refine zE 2 (hK79 _ _ ?_)
 refine W.region ?_
 refine zR 4 ?_
 refine zI ((ifind (img.length : Int) gw gi gb n_).1 + 5) (wrap_i64 (by omega) (by omega)) ?_
 refine zC00 hs75 (get_spec (at_ := ((ifind (img.length : Int) gw gi gb n_).1 + 5)) (hv := (viewAt_old hs75 hv)) B _) fun w80 hs82 => ?_
 refine zR 1 ?_
 refine zT 5 [(zu (vget img l ((ifind (img.length : Int) gw gi gb n_).1 + 5)))] [(zu (vget img l ((ifind (img.length : Int) gw gi gb n_).1 + 0))), (zu (vget img l ((ifind (img.length : Int) gw gi gb n_).1 + 1))), (zu (vget img l ((ifind (img.length : Int) gw gi gb n_).1 + 2))), (zu (vget img l ((ifind (img.length : Int) gw gi gb n_).1 + 3))), (zu (vget img l ((ifind (img.length : Int) gw gi gb n_).1 + 4))), (zu (vget img l ((ifind (img.length : Int) gw gi gb n_).1 + 5))), (zu 0), (zu 0), (zu 0), (zu 0)] hs82 fun w83 hs85 => ?_
 refine zD ?_
 refine normal_block ?_
 refine hK78 _ _ ?_
 refine W.region ?_
 refine zE 2 ?_
 refine loopAt_next ?_
 refine loopAt_round ?_
 refine W.sr fun K86 hK86 => ?_
 refine zE 1 (hK86 _ _ ?_)
 refine W.seq fun K87 hK87 => ?_
 refine W.cond_true true (by kernel_rfl) rfl ?_
 refine W.skip ?_
 refine hK87 _ _ ?_
 refine W.seq fun K88 hK88 => ?_
 refine W.block ?_
 refine W.sr fun K89 hK89 => ?_
 refine zE 2 (hK89 _ _ ?_)
 refine W.region ?_
 refine zR 4 ?_
 refine zI ((ifind (img.length : Int) gw gi gb n_).1 + 6) (wrap_i64 (by omega) (by omega)) ?_
 refine zC00 hs85 (get_spec (at_ := ((ifind (img.length : Int) gw gi gb n_).1 + 6)) (hv := (viewAt_old hs85 hv)) B _) fun w90 hs92 => ?_
 refine zR 1 ?_
 refine zT 6 [(zu (vget img l ((ifind (img.length : Int) gw gi gb n_).1 + 6)))] [(zu (vget img l ((ifind (img.length : Int) gw gi gb n_).1 + 0))), (zu (vget img l ((ifind (img.length : Int) gw gi gb n_).1 + 1))), (zu (vget img l ((ifind (img.length : Int) gw gi gb n_).1 + 2))), (zu (vget img l ((ifind (img.length : Int) gw gi gb n_).1 + 3))), (zu (vget img l ((ifind (img.length : Int) gw gi gb n_).1 + 4))), (zu (vget img l ((ifind (img.length : Int) gw gi gb n_).1 + 5))), (zu (vget img l ((ifind (img.length : Int) gw gi gb n_).1 + 6))), (zu 0), (zu 0), (zu 0)] hs92 fun w93 hs95 => ?_
 refine zD ?_
 refine normal_block ?_
 refine hK88 _ _ ?_
 refine W.region ?_
 refine zE 2 ?_
 refine loopAt_next ?_
 refine loopAt_round ?_
 refine W.sr fun K96 hK96 => ?_
 refine zE 1 (hK96 _ _ ?_)
 refine W.seq fun K97 hK97 => ?_
 refine W.cond_true true (by kernel_rfl) rfl ?_
 refine W.skip ?_
 refine hK97 _ _ ?_
 refine W.seq fun K98 hK98 => ?_
 refine W.block ?_
 refine W.sr fun K99 hK99 => ?_
 refine zE 2 (hK99 _ _ ?_)
 refine W.region ?_
 refine zR 4 ?_
 refine zI ((ifind (img.length : Int) gw gi gb n_).1 + 7) (wrap_i64 (by omega) (by omega)) ?_
 refine zC00 hs95 (get_spec (at_ := ((ifind (img.length : Int) gw gi gb n_).1 + 7)) (hv := (viewAt_old hs95 hv)) B _) fun w100 hs102 => ?_
 refine zR 1 ?_
 refine zT 7 [(zu (vget img l ((ifind (img.length : Int) gw gi gb n_).1 + 7)))] [(zu (vget img l ((ifind (img.length : Int) gw gi gb n_).1 + 0))), (zu (vget img l ((ifind (img.length : Int) gw gi gb n_).1 + 1))), (zu (vget img l ((ifind (img.length : Int) gw gi gb n_).1 + 2))), (zu (vget img l ((ifind (img.length : Int) gw gi gb n_).1 + 3))), (zu (vget img l ((ifind (img.length : Int) gw gi gb n_).1 + 4))), (zu (vget img l ((ifind (img.length : Int) gw gi gb n_).1 + 5))), (zu (vget img l ((ifind (img.length : Int) gw gi gb n_).1 + 6))), (zu (vget img l ((ifind (img.length : Int) gw gi gb n_).1 + 7))), (zu 0), (zu 0)] hs102 fun w103 hs105 => ?_
 refine zD ?_
 refine normal_block ?_
 refine hK98 _ _ ?_
 refine W.region ?_
 refine zE 2 ?_
 refine loopAt_next ?_
 refine loopAt_round ?_
 refine W.sr fun K106 hK106 => ?_
 refine zE 1 (hK106 _ _ ?_)
 refine W.seq fun K107 hK107 => ?_
 refine W.cond_true true (by kernel_rfl) rfl ?_
 refine W.skip ?_
 refine hK107 _ _ ?_
 refine W.seq fun K108 hK108 => ?_
 refine W.block ?_
 refine W.sr fun K109 hK109 => ?_
 refine zE 2 (hK109 _ _ ?_)
 refine W.region ?_
 refine zR 4 ?_
 refine zI ((ifind (img.length : Int) gw gi gb n_).1 + 8) (wrap_i64 (by omega) (by omega)) ?_
 refine zC00 hs105 (get_spec (at_ := ((ifind (img.length : Int) gw gi gb n_).1 + 8)) (hv := (viewAt_old hs105 hv)) B _) fun w110 hs112 => ?_
 refine zR 1 ?_
 refine zT 8 [(zu (vget img l ((ifind (img.length : Int) gw gi gb n_).1 + 8)))] [(zu (vget img l ((ifind (img.length : Int) gw gi gb n_).1 + 0))), (zu (vget img l ((ifind (img.length : Int) gw gi gb n_).1 + 1))), (zu (vget img l ((ifind (img.length : Int) gw gi gb n_).1 + 2))), (zu (vget img l ((ifind (img.length : Int) gw gi gb n_).1 + 3))), (zu (vget img l ((ifind (img.length : Int) gw gi gb n_).1 + 4))), (zu (vget img l ((ifind (img.length : Int) gw gi gb n_).1 + 5))), (zu (vget img l ((ifind (img.length : Int) gw gi gb n_).1 + 6))), (zu (vget img l ((ifind (img.length : Int) gw gi gb n_).1 + 7))), (zu (vget img l ((ifind (img.length : Int) gw gi gb n_).1 + 8))), (zu 0)] hs112 fun w113 hs115 => ?_
 refine zD ?_
 refine normal_block ?_
 refine hK108 _ _ ?_
 refine W.region ?_
 refine zE 2 ?_
 refine loopAt_next ?_
 refine loopAt_round ?_
 refine W.sr fun K116 hK116 => ?_
 refine zE 1 (hK116 _ _ ?_)
 refine W.seq fun K117 hK117 => ?_
 refine W.cond_true true (by kernel_rfl) rfl ?_
 refine W.skip ?_
 refine hK117 _ _ ?_
 refine W.seq fun K118 hK118 => ?_
 refine W.block ?_
 refine W.sr fun K119 hK119 => ?_
 refine zE 2 (hK119 _ _ ?_)
 refine W.region ?_
 refine zR 4 ?_
 refine zI ((ifind (img.length : Int) gw gi gb n_).1 + 9) (wrap_i64 (by omega) (by omega)) ?_
 refine zC00 hs115 (get_spec (at_ := ((ifind (img.length : Int) gw gi gb n_).1 + 9)) (hv := (viewAt_old hs115 hv)) B _) fun w120 hs122 => ?_
 refine zR 1 ?_
 refine zT 9 [(zu (vget img l ((ifind (img.length : Int) gw gi gb n_).1 + 9)))] [(zu (vget img l ((ifind (img.length : Int) gw gi gb n_).1 + 0))), (zu (vget img l ((ifind (img.length : Int) gw gi gb n_).1 + 1))), (zu (vget img l ((ifind (img.length : Int) gw gi gb n_).1 + 2))), (zu (vget img l ((ifind (img.length : Int) gw gi gb n_).1 + 3))), (zu (vget img l ((ifind (img.length : Int) gw gi gb n_).1 + 4))), (zu (vget img l ((ifind (img.length : Int) gw gi gb n_).1 + 5))), (zu (vget img l ((ifind (img.length : Int) gw gi gb n_).1 + 6))), (zu (vget img l ((ifind (img.length : Int) gw gi gb n_).1 + 7))), (zu (vget img l ((ifind (img.length : Int) gw gi gb n_).1 + 8))), (zu (vget img l ((ifind (img.length : Int) gw gi gb n_).1 + 9)))] hs122 fun w123 hs125 => ?_
 refine zD ?_
 refine normal_block ?_
 refine hK118 _ _ ?_
 refine W.region ?_
 refine zE 2 ?_
 refine loopAt_next ?_
 refine loopAt_round ?_
 refine W.sr fun K126 hK126 => ?_
 refine zE 1 (hK126 _ _ ?_)
 refine W.seq fun K127 hK127 => ?_
 refine W.cond_false false (by kernel_rfl) rfl ?_
 refine W.exit (exit_seq (exit_seq (exit_here ?_)))
 refine hK24 _ _ ?_
 refine W.sr fun K128 hK128 => ?_
 refine zG ⟨b23, 0, none⟩ [(zu (vget img l ((ifind (img.length : Int) gw gi gb n_).1 + 0))), (zu (vget img l ((ifind (img.length : Int) gw gi gb n_).1 + 1))), (zu (vget img l ((ifind (img.length : Int) gw gi gb n_).1 + 2))), (zu (vget img l ((ifind (img.length : Int) gw gi gb n_).1 + 3))), (zu (vget img l ((ifind (img.length : Int) gw gi gb n_).1 + 4))), (zu (vget img l ((ifind (img.length : Int) gw gi gb n_).1 + 5))), (zu (vget img l ((ifind (img.length : Int) gw gi gb n_).1 + 6))), (zu (vget img l ((ifind (img.length : Int) gw gi gb n_).1 + 7))), (zu (vget img l ((ifind (img.length : Int) gw gi gb n_).1 + 8))), (zu (vget img l ((ifind (img.length : Int) gw gi gb n_).1 + 9)))] (cells_sub (hs125.heapAt 0 rfl) rfl) ?_
 refine zC00 hs125 (inode_spec (x_ := ⟨(vget img l ((ifind (img.length : Int) gw gi gb n_).1 + 0)), (vget img l ((ifind (img.length : Int) gw gi gb n_).1 + 1)), (vget img l ((ifind (img.length : Int) gw gi gb n_).1 + 2)), (vget img l ((ifind (img.length : Int) gw gi gb n_).1 + 3)), (vget img l ((ifind (img.length : Int) gw gi gb n_).1 + 4)), (vget img l ((ifind (img.length : Int) gw gi gb n_).1 + 5)), (vget img l ((ifind (img.length : Int) gw gi gb n_).1 + 6)), (vget img l ((ifind (img.length : Int) gw gi gb n_).1 + 7)), (vget img l ((ifind (img.length : Int) gw gi gb n_).1 + 8)), (vget img l ((ifind (img.length : Int) gw gi gb n_).1 + 9))⟩) B _) fun w129 hs131 => ?_
 refine zN [(zu 0), (zu 0), (zu 0), (zu 0), (zu 0), (zu 0), (zu 0), (zu 0), (zu 0), (zu 0)] 153 hs131 fun b134 w132 hs133 => ?_
 refine zT 0 [(zu (vget img l ((ifind (img.length : Int) gw gi gb n_).1 + 0))), (zu (vget img l ((ifind (img.length : Int) gw gi gb n_).1 + 1))), (zu (vget img l ((ifind (img.length : Int) gw gi gb n_).1 + 2))), (zu (vget img l ((ifind (img.length : Int) gw gi gb n_).1 + 3))), (zu (vget img l ((ifind (img.length : Int) gw gi gb n_).1 + 4))), (zu (vget img l ((ifind (img.length : Int) gw gi gb n_).1 + 5))), (zu (vget img l ((ifind (img.length : Int) gw gi gb n_).1 + 6))), (zu (vget img l ((ifind (img.length : Int) gw gi gb n_).1 + 7))), (zu (vget img l ((ifind (img.length : Int) gw gi gb n_).1 + 8))), (zu (vget img l ((ifind (img.length : Int) gw gi gb n_).1 + 9)))] [(zu (vget img l ((ifind (img.length : Int) gw gi gb n_).1 + 0))), (zu (vget img l ((ifind (img.length : Int) gw gi gb n_).1 + 1))), (zu (vget img l ((ifind (img.length : Int) gw gi gb n_).1 + 2))), (zu (vget img l ((ifind (img.length : Int) gw gi gb n_).1 + 3))), (zu (vget img l ((ifind (img.length : Int) gw gi gb n_).1 + 4))), (zu (vget img l ((ifind (img.length : Int) gw gi gb n_).1 + 5))), (zu (vget img l ((ifind (img.length : Int) gw gi gb n_).1 + 6))), (zu (vget img l ((ifind (img.length : Int) gw gi gb n_).1 + 7))), (zu (vget img l ((ifind (img.length : Int) gw gi gb n_).1 + 8))), (zu (vget img l ((ifind (img.length : Int) gw gi gb n_).1 + 9)))] hs133 fun w135 hs137 => ?_
 refine zD (hK128 _ _ ?_)
 refine W.seq fun K138 hK138 => ?_
 refine W.sr fun K139 hK139 => ?_
 refine zG ⟨b4, 0, none⟩ [(zi gw), (zi gi), (zi gb)] (cells_sub (hs137.heapAt 3 rfl) rfl) ?_
 refine zG ⟨b134, 0, none⟩ [(zu (vget img l ((ifind (img.length : Int) gw gi gb n_).1 + 0))), (zu (vget img l ((ifind (img.length : Int) gw gi gb n_).1 + 1))), (zu (vget img l ((ifind (img.length : Int) gw gi gb n_).1 + 2))), (zu (vget img l ((ifind (img.length : Int) gw gi gb n_).1 + 3))), (zu (vget img l ((ifind (img.length : Int) gw gi gb n_).1 + 4))), (zu (vget img l ((ifind (img.length : Int) gw gi gb n_).1 + 5))), (zu (vget img l ((ifind (img.length : Int) gw gi gb n_).1 + 6))), (zu (vget img l ((ifind (img.length : Int) gw gi gb n_).1 + 7))), (zu (vget img l ((ifind (img.length : Int) gw gi gb n_).1 + 8))), (zu (vget img l ((ifind (img.length : Int) gw gi gb n_).1 + 9)))] (cells_sub (hs137.heapAt 0 rfl) rfl) ?_
 refine zC00 hs137 (right_spec (gw := gw) (gi := gi) (gb := gb) (x_ := ⟨(vget img l ((ifind (img.length : Int) gw gi gb n_).1 + 0)), (vget img l ((ifind (img.length : Int) gw gi gb n_).1 + 1)), (vget img l ((ifind (img.length : Int) gw gi gb n_).1 + 2)), (vget img l ((ifind (img.length : Int) gw gi gb n_).1 + 3)), (vget img l ((ifind (img.length : Int) gw gi gb n_).1 + 4)), (vget img l ((ifind (img.length : Int) gw gi gb n_).1 + 5)), (vget img l ((ifind (img.length : Int) gw gi gb n_).1 + 6)), (vget img l ((ifind (img.length : Int) gw gi gb n_).1 + 7)), (vget img l ((ifind (img.length : Int) gw gi gb n_).1 + 8)), (vget img l ((ifind (img.length : Int) gw gi gb n_).1 + 9))⟩) B _) fun w140 hs142 => ?_
 refine zE 1 (hK139 _ _ ?_)
 refine W.cond (!(decide (RightP gw gi gb ⟨(vget img l ((ifind (img.length : Int) gw gi gb n_).1 + 0)), (vget img l ((ifind (img.length : Int) gw gi gb n_).1 + 1)), (vget img l ((ifind (img.length : Int) gw gi gb n_).1 + 2)), (vget img l ((ifind (img.length : Int) gw gi gb n_).1 + 3)), (vget img l ((ifind (img.length : Int) gw gi gb n_).1 + 4)), (vget img l ((ifind (img.length : Int) gw gi gb n_).1 + 5)), (vget img l ((ifind (img.length : Int) gw gi gb n_).1 + 6)), (vget img l ((ifind (img.length : Int) gw gi gb n_).1 + 7)), (vget img l ((ifind (img.length : Int) gw gi gb n_).1 + 8)), (vget img l ((ifind (img.length : Int) gw gi gb n_).1 + 9))⟩))) (by kernel_rfl) (fun h143 => ?_) (fun h143 => ?_)
 ·
  have h143p : ¬ (RightP gw gi gb ⟨(vget img l ((ifind (img.length : Int) gw gi gb n_).1 + 0)), (vget img l ((ifind (img.length : Int) gw gi gb n_).1 + 1)), (vget img l ((ifind (img.length : Int) gw gi gb n_).1 + 2)), (vget img l ((ifind (img.length : Int) gw gi gb n_).1 + 3)), (vget img l ((ifind (img.length : Int) gw gi gb n_).1 + 4)), (vget img l ((ifind (img.length : Int) gw gi gb n_).1 + 5)), (vget img l ((ifind (img.length : Int) gw gi gb n_).1 + 6)), (vget img l ((ifind (img.length : Int) gw gi gb n_).1 + 7)), (vget img l ((ifind (img.length : Int) gw gi gb n_).1 + 8)), (vget img l ((ifind (img.length : Int) gw gi gb n_).1 + 9))⟩) := of_decide_eq_false (bnot_true h143)
  refine W.sr fun K144 hK144 => ?_
  refine zR 1 ?_
  have hs147 := St.f2 hs142
  refine zT 0 [(zu 0), (zu 0), (zu 0), (zu 0), (zu 0), (zu 0), (zu 0), (zu 0), (zu 0), (zu 0)] [(zu 0), (zu 0), (zu 0), (zu 0), (zu 0), (zu 0), (zu 0), (zu 0), (zu 0), (zu 0)] hs147 fun w145 hs148 => ?_
  refine zE 1 (hK144 _ _ ?_)
  refine W.ret (ret_seq ?_)
  have e_ : igetM img l gw gi gb n_ = (Nd.zero, 4) := by first | (exfalso; omega) | (simp only [igetM]; rw [if_pos (by assumption)]; exact if_neg (by assumption))
  have hs149 := St.tk0 hs148
  refine ret_of (.tuple #[(.agg #[(zu 0), (zu 0), (zu 0), (zu 0), (zu 0), (zu 0), (zu 0), (zu 0), (zu 0), (zu 0)]), (zi 4)]) (results_cell2 (ad := ⟨b7, 0, none⟩) (cs := [(zu 0), (zu 0), (zu 0), (zu 0), (zu 0), (zu 0), (zu 0), (zu 0), (zu 0), (zu 0)]) rfl (by kernel_rfl) (by kernel_rfl) (by kernel_rfl) (cells_sub (hs148.heapAt 0 rfl) rfl)) ⟨_, ⟨by rw [e_]; try rfl, rfl⟩, hs149⟩
 have h143p : RightP gw gi gb ⟨(vget img l ((ifind (img.length : Int) gw gi gb n_).1 + 0)), (vget img l ((ifind (img.length : Int) gw gi gb n_).1 + 1)), (vget img l ((ifind (img.length : Int) gw gi gb n_).1 + 2)), (vget img l ((ifind (img.length : Int) gw gi gb n_).1 + 3)), (vget img l ((ifind (img.length : Int) gw gi gb n_).1 + 4)), (vget img l ((ifind (img.length : Int) gw gi gb n_).1 + 5)), (vget img l ((ifind (img.length : Int) gw gi gb n_).1 + 6)), (vget img l ((ifind (img.length : Int) gw gi gb n_).1 + 7)), (vget img l ((ifind (img.length : Int) gw gi gb n_).1 + 8)), (vget img l ((ifind (img.length : Int) gw gi gb n_).1 + 9))⟩ := of_decide_eq_true (bnot_false h143)
 refine W.skip ?_
 refine hK138 _ _ ?_
 refine W.sr fun K150 hK150 => ?_
 refine zG ⟨b134, 0, none⟩ [(zu (vget img l ((ifind (img.length : Int) gw gi gb n_).1 + 0))), (zu (vget img l ((ifind (img.length : Int) gw gi gb n_).1 + 1))), (zu (vget img l ((ifind (img.length : Int) gw gi gb n_).1 + 2))), (zu (vget img l ((ifind (img.length : Int) gw gi gb n_).1 + 3))), (zu (vget img l ((ifind (img.length : Int) gw gi gb n_).1 + 4))), (zu (vget img l ((ifind (img.length : Int) gw gi gb n_).1 + 5))), (zu (vget img l ((ifind (img.length : Int) gw gi gb n_).1 + 6))), (zu (vget img l ((ifind (img.length : Int) gw gi gb n_).1 + 7))), (zu (vget img l ((ifind (img.length : Int) gw gi gb n_).1 + 8))), (zu (vget img l ((ifind (img.length : Int) gw gi gb n_).1 + 9)))] (cells_sub (hs142.heapAt 0 rfl) rfl) ?_
 have hs153 := St.f2 hs142
 refine zT 0 [(zu (vget img l ((ifind (img.length : Int) gw gi gb n_).1 + 0))), (zu (vget img l ((ifind (img.length : Int) gw gi gb n_).1 + 1))), (zu (vget img l ((ifind (img.length : Int) gw gi gb n_).1 + 2))), (zu (vget img l ((ifind (img.length : Int) gw gi gb n_).1 + 3))), (zu (vget img l ((ifind (img.length : Int) gw gi gb n_).1 + 4))), (zu (vget img l ((ifind (img.length : Int) gw gi gb n_).1 + 5))), (zu (vget img l ((ifind (img.length : Int) gw gi gb n_).1 + 6))), (zu (vget img l ((ifind (img.length : Int) gw gi gb n_).1 + 7))), (zu (vget img l ((ifind (img.length : Int) gw gi gb n_).1 + 8))), (zu (vget img l ((ifind (img.length : Int) gw gi gb n_).1 + 9)))] [(zu (vget img l ((ifind (img.length : Int) gw gi gb n_).1 + 0))), (zu (vget img l ((ifind (img.length : Int) gw gi gb n_).1 + 1))), (zu (vget img l ((ifind (img.length : Int) gw gi gb n_).1 + 2))), (zu (vget img l ((ifind (img.length : Int) gw gi gb n_).1 + 3))), (zu (vget img l ((ifind (img.length : Int) gw gi gb n_).1 + 4))), (zu (vget img l ((ifind (img.length : Int) gw gi gb n_).1 + 5))), (zu (vget img l ((ifind (img.length : Int) gw gi gb n_).1 + 6))), (zu (vget img l ((ifind (img.length : Int) gw gi gb n_).1 + 7))), (zu (vget img l ((ifind (img.length : Int) gw gi gb n_).1 + 8))), (zu (vget img l ((ifind (img.length : Int) gw gi gb n_).1 + 9)))] hs153 fun w151 hs154 => ?_
 refine zE 1 (hK150 _ _ ?_)
 refine W.ret ?_
 have e_ : igetM img l gw gi gb n_ = (ndAt img l (ifind (img.length : Int) gw gi gb n_).1, 0) := by first | (exfalso; omega) | (simp only [igetM]; rw [if_pos (by assumption)]; exact if_pos (by assumption))
 have hs155 := St.tk0 hs154
 refine ret_of (.tuple #[(.agg #[(zu (vget img l ((ifind (img.length : Int) gw gi gb n_).1 + 0))), (zu (vget img l ((ifind (img.length : Int) gw gi gb n_).1 + 1))), (zu (vget img l ((ifind (img.length : Int) gw gi gb n_).1 + 2))), (zu (vget img l ((ifind (img.length : Int) gw gi gb n_).1 + 3))), (zu (vget img l ((ifind (img.length : Int) gw gi gb n_).1 + 4))), (zu (vget img l ((ifind (img.length : Int) gw gi gb n_).1 + 5))), (zu (vget img l ((ifind (img.length : Int) gw gi gb n_).1 + 6))), (zu (vget img l ((ifind (img.length : Int) gw gi gb n_).1 + 7))), (zu (vget img l ((ifind (img.length : Int) gw gi gb n_).1 + 8))), (zu (vget img l ((ifind (img.length : Int) gw gi gb n_).1 + 9)))]), (zi 0)]) (results_cell2 (ad := ⟨b7, 0, none⟩) (cs := [(zu (vget img l ((ifind (img.length : Int) gw gi gb n_).1 + 0))), (zu (vget img l ((ifind (img.length : Int) gw gi gb n_).1 + 1))), (zu (vget img l ((ifind (img.length : Int) gw gi gb n_).1 + 2))), (zu (vget img l ((ifind (img.length : Int) gw gi gb n_).1 + 3))), (zu (vget img l ((ifind (img.length : Int) gw gi gb n_).1 + 4))), (zu (vget img l ((ifind (img.length : Int) gw gi gb n_).1 + 5))), (zu (vget img l ((ifind (img.length : Int) gw gi gb n_).1 + 6))), (zu (vget img l ((ifind (img.length : Int) gw gi gb n_).1 + 7))), (zu (vget img l ((ifind (img.length : Int) gw gi gb n_).1 + 8))), (zu (vget img l ((ifind (img.length : Int) gw gi gb n_).1 + 9)))]) rfl (by kernel_rfl) (by kernel_rfl) (by kernel_rfl) (cells_sub (hs154.heapAt 0 rfl) rfl)) ⟨_, ⟨by rw [e_]; try rfl, rfl⟩, hs155⟩
end Go.Proofs.YtmmclabkkigiaaaGreatDoor

namespace Go.Proofs.YtmmclabkkigiaaaGreatDoor
open Go Go.RowKit
section
variable {img : List Int} {l : List (Int × Int)} {at_ many : Int}
theorem word_cnt (hv : VR img l) {k : Nat} (hk : 64 * (k : Int) < many) : cnt (bitI (mwordAt img l at_ many k)) 64 = cnt (fun j => decide (((64 * k + j : Nat) : Int) < many) && mbits img l at_ (64 * k + j)) 64 :=
  cnt_congr fun j hj => by
    rw [bitI_word hv hj hk]
    congr 1
theorem mcount_ok (hv : VR img l) (ha : 0 ≤ at_ ∧ at_ ≤ 1000000000000) (hm : 1 ≤ many ∧ many ≤ 1000000000000) :
    mcount_M img l at_ many = some ((cnt (mbits img l at_) many.toNat : Nat) : Int) := by
  unfold mcount_M
  refine need_of (by omega) ?_
  obtain ⟨g, hg⟩ : ∃ g : Nat → Bool, g = fun (i : Nat) => decide ((i : Int) < many) && mbits img l at_ i := ⟨_, rfl⟩
  have key : ∀ (m k : Nat), k + m = nWords many → rounds (fun k_ c_ s_ => mcount_R19 img l at_ many k_ c_ s_) (fun s_ => mcount_D19 s_) m k ((cnt g (64 * k) : Nat) : Int) = some ((cnt g (64 * (nWords many)) : Nat) : Int) := by
    intro m
    induction m with
    | zero =>
      intro k hk
      have e : k = nWords many := by omega
      subst e
      rfl
    | succ m ih =>
      intro k hk
      have hlt : 64 * (k : Int) < many := by unfold nWords at hk; omega
      have hb := cnt_le g (64 * k)
      have hw := cnt_le (bitI (mwordAt img l at_ many k)) 64
      have hkm : k ≤ 1000000000000 := by omega
      show mcount_R19 img l at_ many k _ _ = _
      unfold mcount_R19
      refine bind_of rfl (bind_of (ones_ok (mwordAt_u64 hv)) (need_of (by omega) ?_))
      have e : ((cnt g (64 * k) : Nat) : Int) + ((cnt (bitI (mwordAt img l at_ many k)) 64 : Nat) : Int) = ((cnt g (64 * (k + 1)) : Nat) : Int) := by
        rw [show 64 * (k + 1) = 64 * k + 64 by omega, cnt_add, word_cnt hv hlt, hg]
        simp
      rw [e]
      exact ih (k + 1) (by omega)
  have h0 := key (nWords many) 0 (by omega)
  rw [show ((cnt g (64 * 0) : Nat) : Int) = 0 from rfl] at h0
  rw [h0]
  have e : 64 * nWords many = many.toNat + (64 * nWords many - many.toNat) := by unfold nWords; omega
  rw [e, cnt_add]
  have z : cnt (fun i => g (many.toNat + i)) (64 * nWords many - many.toNat) = 0 := cnt_none fun i _ => by rw [hg]; simp; omega
  have c : cnt g many.toNat = cnt (mbits img l at_) many.toNat := cnt_congr fun i hi => by
    rw [hg]
    simp only
    rw [decide_eq_true (by omega), Bool.true_and]
  rw [z, c]
  rfl
theorem ctz_bit {x : Nat} (h0 : x ≠ 0) (h : x < 2 ^ 64) : Lib.ctz 64 x < 64 ∧ x.testBit (Lib.ctz 64 x) = true ∧ ∀ j, j < Lib.ctz 64 x → x.testBit j = false := by
  unfold Lib.ctz
  rw [if_neg h0]
  obtain ⟨m, hm, hlt⟩ := Lib.ctzFrom_spec 64 x (by omega) h
  generalize Lib.ctzFrom 64 x = k at *
  subst hm
  refine ⟨hlt, ?_, fun j hj => ?_⟩
  · rw [Nat.mul_comm, Nat.testBit_mul_two_pow]; simp [Nat.testBit_zero]
  · rw [Nat.mul_comm, Nat.testBit_mul_two_pow]; simp; omega
theorem bitI_ones {j : Nat} (hj : j < 64) : bitI 18446744073709551615 j = true := by
  show (18446744073709551615 : Nat).testBit j = true
  rw [show (18446744073709551615 : Nat) = 2 ^ 64 - 1 from rfl, Nat.testBit_two_pow_sub_one]
  simpa using hj
theorem mclear_ok (hv : VR img l) (ha : 0 ≤ at_ ∧ at_ ≤ 1000000000000) (hm : 1 ≤ many ∧ many ≤ 1000000000000) :
    mclear_M img l at_ many = some (lst (mbits img l at_) many.toNat) := by
  unfold mclear_M
  refine need_of (by omega) ?_
  have key : ∀ (m k : Nat), k + m = nWords many → (∀ j, j < 64 * k → (j : Int) < many → mbits img l at_ j = true) → rounds (fun k_ c_ (s_ : Unit) => mclear_R26 img l at_ many k_ c_) (fun s_ => mclear_D26) m k () = some (lst (mbits img l at_) many.toNat) := by
    intro m
    induction m with
    | zero =>
      intro k hk hall
      show mclear_D26 = _
      unfold mclear_D26
      rw [lst_full fun j hj => hall j (by unfold nWords at hk; omega) (by omega)]
    | succ m ih =>
      intro k hk hall
      have hlt : 64 * (k : Int) < many := by unfold nWords at hk; omega
      have hkm : k ≤ 1000000000000 := by omega
      show mclear_R26 img l at_ many k _ = _
      unfold mclear_R26
      have hw := mwordAt_u64 (at_ := at_) (many := many) (k := k) hv
      obtain ⟨x, hx⟩ : ∃ x, bits .xor .u64 18446744073709551615 (mwordAt img l at_ many k) = x := ⟨_, rfl⟩
      have hxu : U64 x := by rw [← hx]; exact bits_u64 (by unfold U64; omega) hw
      have hbit : ∀ j, j < 64 → bitI x j = !(decide (64 * (k : Int) + j < many) && mbits img l at_ (64 * k + j)) := by
        intro j hj
        rw [← hx, bitI_xor (by unfold U64; omega) hw, bitI_ones hj, bitI_word hv hj hlt]
        simp
      refine bind_of rfl ?_
      rw [hx]
      have hxu' := hxu
      unfold U64 at hxu'
      have hc : Lib.ctz 64 x.toNat ≤ 64 := by
        by_cases h0 : x.toNat = 0
        · rw [h0]; exact Nat.le_refl _
        · exact Nat.le_of_lt (ctz_bit h0 (by omega)).1
      refine need_of (by omega) (need_of (by omega) (bind_of rfl (need_of (by omega) ?_)))
      have cont : (∀ j, j < 64 * (k + 1) → (j : Int) < many → mbits img l at_ j = true) → rounds (fun k_ c_ (s_ : Unit) => mclear_R26 img l at_ many k_ c_) (fun s_ => mclear_D26) m (k + 1) () = some (lst (mbits img l at_) many.toNat) := ih (k + 1) (by omega)
      by_cases h0 : x.toNat = 0
      · rw [h0, if_neg (by rw [show Lib.ctz 64 0 = 64 from rfl]; omega)]
        unfold mclear_J4
        rw [if_neg (by decide)]
        refine cont fun j hj hj2 => ?_
        by_cases hjk : j < 64 * k
        · exact hall j hjk hj2
        · have hb := hbit (j - 64 * k) (by omega)
          have hz : bitI x (j - 64 * k) = false := by unfold bitI; rw [h0]; simp
          rw [hz, decide_eq_true (by omega), Bool.true_and, show 64 * k + (j - 64 * k) = j by omega] at hb
          simpa using hb.symm
      · obtain ⟨c1, c2, c3⟩ := ctz_bit h0 (by omega)
        generalize Lib.ctz 64 x.toNat = c at *
        rw [if_pos (by omega)]
        have b1 : ∀ j, j < c → mbits img l at_ (64 * k + j) = true ∧ 64 * (k : Int) + j < many := by
          intro j hj
          have hb := hbit j (by omega)
          rw [show bitI x j = false from c3 j hj] at hb
          have hb' := hb.symm
          simp only [Bool.not_eq_false', Bool.and_eq_true, decide_eq_true_eq] at hb'
          exact ⟨hb'.2, hb'.1⟩
        have b2 := hbit c c1
        rw [show bitI x c = true from c2] at b2
        have hprev : ∀ j, j < 64 * k + c → (j : Int) < many → mbits img l at_ j = true := by
          intro j hj hj2
          by_cases hjk : j < 64 * k
          · exact hall j hjk hj2
          · have := (b1 (j - 64 * k) (by omega)).1
            rwa [show 64 * k + (j - 64 * k) = j by omega] at this
        unfold mclear_J4
        by_cases hr : 64 * (k : Int) + (c : Int) < many
        · rw [if_pos (decide_eq_true hr)]
          unfold mclear_X26
          have hf : mbits img l at_ (64 * k + c) = false := by
            rw [decide_eq_true hr, Bool.true_and] at b2
            simpa using b2.symm
          rw [lst_at (i := 64 * k + c) (by omega) hf (fun j hj => hprev j hj (by omega))]
          congr 2
        · rw [if_neg (by simpa using hr)]
          exact cont fun j hj hj2 => hprev j (by omega) hj2
  exact key (nWords many) 0 (by omega) (fun j hj => by omega)
end
end Go.Proofs.YtmmclabkkigiaaaGreatDoor

namespace Go.Proofs.YtmmclabkkigiaaaGreatDoor
open Go Go.RowKit
def gb (img : List Int) (l : List (Int × Int)) (i : Nat) : Bool := bitI (vget img l ((i / 64 : Nat) : Int)) (i % 64)
theorem shr_tmod {v : Int} {j : Int} (hv : U64 v) (hj : 0 ≤ j ∧ j < 64) : (shrK .u64 v j).tmod 2 = if bitI v j.toNat = true then 1 else 0 := by
  obtain ⟨n, rfl⟩ := Int.eq_ofNat_of_zero_le hv.1
  have e : shrK .u64 (n : Int) j = ((n / 2 ^ j.toNat : Nat) : Int) := by
    unfold shrK
    have e : min j.toNat IntKind.u64.bits = j.toNat := by
      have : IntKind.u64.bits = 64 := rfl
      omega
    rw [e, Int.fdiv_eq_ediv_of_nonneg _ (Int.le_of_lt (Int.pow_pos (by omega)))]
    simp
  rw [e, Int.tmod_eq_emod_of_nonneg (Int.natCast_nonneg _)]
  unfold bitI
  rw [Int.toNat_natCast, Nat.testBit_eq_decide_div_mod_eq]
  by_cases h : n / 2 ^ j.toNat % 2 = 1
  · rw [if_pos (by simpa using h)]; omega
  · rw [if_neg (by simpa using h)]; omega
theorem nodup_len : ∀ (n : Nat) (xs : List Int), xs.Nodup → (∀ x ∈ xs, 0 ≤ x ∧ x < (n : Int)) → xs.length ≤ n
  | 0, xs, _, h => by
    cases xs with
    | nil => simp
    | cons x xs => have := h x (by simp); omega
  | n + 1, xs, hn, h => by
    have h2 := nodup_len n (xs.erase (n : Int)) (hn.erase _) (fun x hx => by
      have h3 := h x (List.mem_of_mem_erase hx)
      have h4 : x ≠ (n : Int) := fun e => by subst e; exact absurd hx (hn.not_mem_erase)
      omega)
    have h5 := List.length_erase (a := (n : Int)) (l := xs)
    split at h5 <;> omega
theorem VOk.len {img : List Int} {l : List (Int × Int)} (h : VOk img l) : l.length ≤ img.length := by
  have h1 := nodup_len img.length (l.map (fun p : Int × Int => p.1)) h.keys (fun x hx => by
    obtain ⟨p, hp, rfl⟩ := List.mem_map.1 hx
    exact h.inside p hp)
  simpa using h1
end Go.Proofs.YtmmclabkkigiaaaGreatDoor

set_option maxRecDepth 20000
namespace Go.Proofs.YtmmclabkkigiaaaGreatDoor
open Go Go.RowKit
theorem blockat_spec {gw gi gb n_ : Int} (B : Nat) (w : World) : Spec Tryz.prog 59 #[(.agg #[(zi gw), (zi gi), (zi gb)]), (zi n_)] B w [] (fun v H' => v = .int .i64 (placeOf 9 gw gi gb n_) ∧ H' = []) := by
 refine spec_Q Tryz.func59 rfl fun hs => ?_
 refine W.sr fun K1 hK1 => ?_
 refine zN [(zi gw), (zi gi), (zi gb)] 31 hs fun b4 w2 hs3 => ?_
 refine zE 1 (hK1 _ _ ?_)
 refine W.sr fun K5 hK5 => ?_
 refine zG ⟨b4, 0, none⟩ [(zi gw), (zi gi), (zi gb)] (cells_sub (hs3.heapAt 0 rfl) rfl) ?_
 refine zR 1 ?_
 refine zC00 hs3 (place9_spec (gw := gw) (gi := gi) (gb := gb) (n_ := n_) B _) fun w6 hs8 => ?_
 refine zE 1 (hK5 _ _ ?_)
 refine W.ret ?_
 have hs9 := St.tk0 hs8
 refine ret_of (zi (placeOf 9 gw gi gb n_)) (by kernel_rfl) ⟨_, ⟨rfl, rfl⟩, hs9⟩
theorem lmap6_spec {gw gi gb : Int} (B : Nat) (w : World) : Spec Tryz.prog 136 #[(.agg #[(zi gw), (zi gi), (zi gb)])] B w [] (fun v H' => v = .int .i64 (placeOf 6 gw gi gb 0) ∧ H' = []) := by
 refine spec_Q Tryz.func136 rfl fun hs => ?_
 refine W.sr fun K1 hK1 => ?_
 refine zN [(zi gw), (zi gi), (zi gb)] 31 hs fun b4 w2 hs3 => ?_
 refine zE 1 (hK1 _ _ ?_)
 refine W.sr fun K5 hK5 => ?_
 refine zG ⟨b4, 0, none⟩ [(zi gw), (zi gi), (zi gb)] (cells_sub (hs3.heapAt 0 rfl) rfl) ?_
 refine zC00 hs3 (place6_spec (gw := gw) (gi := gi) (gb := gb) (n_ := 0) B _) fun w6 hs8 => ?_
 refine zE 1 (hK5 _ _ ?_)
 refine W.ret ?_
 have hs9 := St.tk0 hs8
 refine ret_of (zi (placeOf 6 gw gi gb 0)) (by kernel_rfl) ⟨_, ⟨rfl, rfl⟩, hs9⟩
theorem lmap7_spec {gw gi gb : Int} (B : Nat) (w : World) : Spec Tryz.prog 137 #[(.agg #[(zi gw), (zi gi), (zi gb)])] B w [] (fun v H' => v = .int .i64 (placeOf 7 gw gi gb 0) ∧ H' = []) := by
 refine spec_Q Tryz.func137 rfl fun hs => ?_
 refine W.sr fun K1 hK1 => ?_
 refine zN [(zi gw), (zi gi), (zi gb)] 31 hs fun b4 w2 hs3 => ?_
 refine zE 1 (hK1 _ _ ?_)
 refine W.sr fun K5 hK5 => ?_
 refine zG ⟨b4, 0, none⟩ [(zi gw), (zi gi), (zi gb)] (cells_sub (hs3.heapAt 0 rfl) rfl) ?_
 refine zC00 hs3 (place7_spec (gw := gw) (gi := gi) (gb := gb) (n_ := 0) B _) fun w6 hs8 => ?_
 refine zE 1 (hK5 _ _ ?_)
 refine W.ret ?_
 have hs9 := St.tk0 hs8
 refine ret_of (zi (placeOf 7 gw gi gb 0)) (by kernel_rfl) ⟨_, ⟨rfl, rfl⟩, hs9⟩
theorem rblockat_spec {gw gi gb n_ : Int} (B : Nat) (w : World) : Spec Tryz.prog 71 #[(.agg #[(zi gw), (zi gi), (zi gb)]), (zi n_)] B w [] (fun v H' => v = .int .i64 (placeOf 9 gw gi gb n_) ∧ H' = []) := by
 refine spec_Q Tryz.func71 rfl fun hs => ?_
 refine W.sr fun K1 hK1 => ?_
 refine zN [(zi gw), (zi gi), (zi gb)] 42 hs fun b4 w2 hs3 => ?_
 refine zE 1 (hK1 _ _ ?_)
 refine W.seq fun K5 hK5 => ?_
 refine W.sr fun K6 hK6 => ?_
 refine zG ⟨b4, 0, none⟩ [(zi gw), (zi gi), (zi gb)] (cells_sub (hs3.heapAt 0 rfl) rfl) ?_
 refine zC00 hs3 (rmay_spec (gw := gw) (gi := gi) (gb := gb) B _) fun w7 hs9 => ?_
 refine zR 2 ?_
 rcases Bool.eq_false_or_eq_true (!(decide (May gw gi gb))) with h10 | h10
 ·
  have h10p : ¬ (May gw gi gb) := of_decide_eq_false (bnot_true h10)
  refine zS 8 h10 ?_
  refine zS 7 h10 ?_
  refine zE 9 (hK6 _ _ ?_)
  refine W.cond_true true (by kernel_rfl) rfl ?_
  refine W.sr fun K11 hK11 => ?_
  refine zE 1 (hK11 _ _ ?_)
  refine W.ret (ret_seq ?_)
  have hs12 := St.tk0 hs9
  refine ret_of (zi (-1)) (by kernel_rfl) ⟨_, ⟨congrArg (Value.int .i64) (by by_cases hm : May gw gi gb <;> first | contradiction | (have hm_ : (1 ≤ gw ∧ gw ≤ 4) ∧ (2 ≤ gi ∧ gi ≤ 64) ∧ (2 ≤ gb ∧ gb ≤ 512) := hm; simp only [placeOf, if_pos hm]; split <;> omega) | (simp only [placeOf, if_neg hm]; done)), rfl⟩, hs12⟩
 have h10p : May gw gi gb := of_decide_eq_true (bnot_false h10)
 have hm : May gw gi gb := h10p
 have hm_ : (1 ≤ gw ∧ gw ≤ 4) ∧ (2 ≤ gi ∧ gi ≤ 64) ∧ (2 ≤ gb ∧ gb ≤ 512) := hm
 refine zS 8 h10 ?_
 refine zS 7 h10 ?_
 refine zR 4 ?_
 rcases Bool.eq_false_or_eq_true (decide (n_ < 0)) with h13 | h13
 ·
  have h13p := of_decide_eq_true h13
  refine zS 12 h13 ?_
  refine zS 10 h13 ?_
  refine zS 11 h13 ?_
  refine zE 5 (hK6 _ _ ?_)
  refine W.cond_true true (by kernel_rfl) rfl ?_
  refine W.sr fun K14 hK14 => ?_
  refine zE 1 (hK14 _ _ ?_)
  refine W.ret (ret_seq ?_)
  have hs15 := St.tk0 hs9
  refine ret_of (zi (-1)) (by kernel_rfl) ⟨_, ⟨congrArg (Value.int .i64) (by by_cases hm : May gw gi gb <;> first | contradiction | (have hm_ : (1 ≤ gw ∧ gw ≤ 4) ∧ (2 ≤ gi ∧ gi ≤ 64) ∧ (2 ≤ gb ∧ gb ≤ 512) := hm; simp only [placeOf, if_pos hm]; split <;> omega) | (simp only [placeOf, if_neg hm]; done)), rfl⟩, hs15⟩
 have h13p := of_decide_eq_false h13
 refine zS 12 h13 ?_
 refine zS 10 h13 ?_
 refine zS 11 h13 ?_
 refine zR 2 ?_
 refine zL ⟨b4, 2, none⟩ (zi gb) (hs9.cellAt 0 rfl rfl) ?_
 refine zE 2 (hK6 _ _ ?_)
 refine W.cond (decide (n_ ≥ gb)) (by kernel_rfl) (fun h16 => ?_) (fun h16 => ?_)
 ·
  have h16p := of_decide_eq_true h16
  refine W.sr fun K17 hK17 => ?_
  refine zE 1 (hK17 _ _ ?_)
  refine W.ret (ret_seq ?_)
  have hs18 := St.tk0 hs9
  refine ret_of (zi (-1)) (by kernel_rfl) ⟨_, ⟨congrArg (Value.int .i64) (by by_cases hm : May gw gi gb <;> first | contradiction | (have hm_ : (1 ≤ gw ∧ gw ≤ 4) ∧ (2 ≤ gi ∧ gi ≤ 64) ∧ (2 ≤ gb ∧ gb ≤ 512) := hm; simp only [placeOf, if_pos hm]; split <;> omega) | (simp only [placeOf, if_neg hm]; done)), rfl⟩, hs18⟩
 have h16p := of_decide_eq_false h16
 refine W.skip ?_
 refine hK5 _ _ ?_
 refine W.seq fun K19 hK19 => ?_
 have hs20 := hs9.drew
 refine W.regionD [(0, 0), (1, 1), (2, 2), (0, 0), (8, 8), (16, 16), (36, 36), (0, 0), (128, 128), (320, 320), (1023, 512)] (fun w_ => St B w [] w_ [zb b4 42 [(zi gw), (zi gi), (zi gb)]]) (by kernel_rfl) hs20 ?_
 refine any_R 0 (by kernel_rfl) (fun _ hS_ => runs_loadAgg (ad := ⟨b4, 0, none⟩) (cs := [(zi gw), (zi gi), (zi gb)]) (by kernel_rfl) (cells_sub (hS_.heapAt 0 rfl) rfl)) hs20 ?_
 refine zA (.pointer (some ⟨b4, 1, none⟩)) 3 hs20 ?_
 refine zB 4 ⟨b4, 1, none⟩ (zi gi) (fun _ hS_ => (hS_.cellAt 0 rfl rfl)) hs20 ?_
 refine any_val (v := .int .i64 (IntKind.i64.wrap (16 * gi))) (v' := .int .i64 (16 * gi)) 5 (by kernel_rfl) (fun _ => by kernel_rfl) (congrArg (Value.int .i64) (wrap_i64 (by omega) (by omega))) hs20 ?_
 refine zA (zi n_) 7 hs20 ?_
 refine any_val (v := .int .i64 (IntKind.i64.wrap (8 * n_))) (v' := .int .i64 (8 * n_)) 8 (by kernel_rfl) (fun _ => by kernel_rfl) (congrArg (Value.int .i64) (wrap_i64 (by omega) (by omega))) hs20 ?_
 refine any_step 1 (by kernel_rfl) (by kernel_rfl) ?_
 refine zC00 hs20 (maps_spec (hm := hm) (gw := gw) (gi := gi) (gb := gb) B _) fun w21 hs23 => ?_
 refine ops_done (by kernel_rfl) ⟨hs23, ?_⟩
 refine any_val (v := .int .i64 (IntKind.i64.wrap ((264 + 208 * gw) + 16))) (v' := .int .i64 ((264 + 208 * gw) + 16)) 2 (by kernel_rfl) (fun _ => by kernel_rfl) (congrArg (Value.int .i64) (wrap_i64 (by omega) (by omega))) hs23 ?_
 refine any_val (v := .int .i64 (IntKind.i64.wrap (((264 + 208 * gw) + 16) + (16 * gi)))) (v' := .int .i64 (((264 + 208 * gw) + 16) + (16 * gi))) 6 (by kernel_rfl) (fun _ => by kernel_rfl) (congrArg (Value.int .i64) (wrap_i64 (by omega) (by omega))) hs23 ?_
 refine any_val (v := .int .i64 (IntKind.i64.wrap ((((264 + 208 * gw) + 16) + (16 * gi)) + (8 * n_)))) (v' := .int .i64 ((((264 + 208 * gw) + 16) + (16 * gi)) + (8 * n_))) 9 (by kernel_rfl) (fun _ => by kernel_rfl) (congrArg (Value.int .i64) (wrap_i64 (by omega) (by omega))) hs23 ?_
 refine zA (zi ((((264 + 208 * gw) + 16) + (16 * gi)) + (8 * n_))) 10 hs23 ?_
 refine any_done (by kernel_rfl) ?_
 refine hK19 _ _ ?_
 refine W.ret ?_
 have hs24 := St.tk0 hs23
 refine ret_of (zi ((((264 + 208 * gw) + 16) + (16 * gi)) + (8 * n_))) (by kernel_rfl) ⟨_, ⟨congrArg (Value.int .i64) (by by_cases hm : May gw gi gb <;> first | contradiction | (have hm_ : (1 ≤ gw ∧ gw ≤ 4) ∧ (2 ≤ gi ∧ gi ≤ 64) ∧ (2 ≤ gb ∧ gb ≤ 512) := hm; simp only [placeOf, if_pos hm]; split <;> omega) | (simp only [placeOf, if_neg hm]; done)), rfl⟩, hs24⟩
end Go.Proofs.YtmmclabkkigiaaaGreatDoor

set_option maxRecDepth 20000
namespace Go.Proofs.YtmmclabkkigiaaaGreatDoor
open Go Go.RowKit
def pfree_M (img : List Int) (l : List (Int × Int)) (at_ : Int) (many : Int) (pm : Int) : Option (Int) :=
 (mcount_M img l at_ many).bind fun r7 =>
need (-9223372036854775808 ≤ (pm - r7) ∧ (pm - r7) ≤ 9223372036854775807) <|
some (pm - r7)
theorem pfree_walk {img : List Int} {l : List (Int × Int)} {at_ : Int} {many : Int} {pm : Int} {mb vb : Nat} {r : Int} (B : Nat) (w : World) (hmb : w.heap[mb]? = some (.cells [(zp vb), (zi at_), (zi many)].toArray 213 (0, 0))) (hv : ViewAt (ptr vb) img l w) (hm : pfree_M img l at_ many pm = some r) : Spec Tryz.prog 138 #[(.agg #[(zp mb), (zi pm)])] B w [] (fun v H' => v = .int .i64 r ∧ H' = []) := by
 refine spec_Q Tryz.func138 rfl fun hs => ?_
 unfold pfree_M at hm
 refine W.sr fun K1 hK1 => ?_
 refine zN [(zp mb), (zi pm)] 206 hs fun b4 w2 hs3 => ?_
 refine zE 1 (hK1 _ _ ?_)
 refine W.seq fun K5 hK5 => ?_
 have hs6 := hs3.drew
 refine W.regionD [(0, 0), (1, 1), (0, 0), (4, 4), (8, 8), (18, 18), (63, 32)] (fun w_ => St B w [] w_ [zb b4 206 [(zp mb), (zi pm)]]) (by kernel_rfl) hs6 ?_
 refine zA (.pointer (some ⟨b4, 1, none⟩)) 0 hs6 ?_
 refine zB 1 ⟨b4, 1, none⟩ (zi pm) (fun _ hS_ => (hS_.cellAt 0 rfl rfl)) hs6 ?_
 refine zA (zp b4) 2 hs6 ?_
 refine zB 3 ⟨b4, 0, none⟩ (zp mb) (fun _ hS_ => (hS_.cellAt 0 rfl rfl)) hs6 ?_
 refine any_step 4 (by kernel_rfl) (by kernel_rfl) ?_
 obtain ⟨r7, h8, hm⟩ := bind_some hm
 refine zC00 hs6 (mcount_walk (hmb := (hs6.old hmb)) (hv := (viewAt_old hs6 hv)) (hm := h8) B _) fun w9 hs11 => ?_
 refine ops_done (by kernel_rfl) ⟨hs11, ?_⟩
 obtain ⟨h12, hm⟩ := need_some hm
 refine any_val (v := .int .i64 (IntKind.i64.wrap (pm - r7))) (v' := .int .i64 (pm - r7)) 5 (by kernel_rfl) (fun _ => by kernel_rfl) (congrArg (Value.int .i64) (wrap_i64 h12.1 h12.2)) hs11 ?_
 refine zA (zi (pm - r7)) 6 hs11 ?_
 refine any_done (by kernel_rfl) ?_
 refine hK5 _ _ ?_
 refine W.ret ?_
 obtain rfl := some_inj hm
 have hs13 := St.tk0 hs11
 refine ret_of (zi (pm - r7)) (by kernel_rfl) ⟨_, ⟨rfl, rfl⟩, hs13⟩
def pgive_J1 (img : List Int) (l : List (Int × Int)) (at_ : Int) (many : Int) (n_ : Int) (p6 : Bool) : Option (Int × List (Int × Int)) :=
 if p6 = true then (some (1, l)) else ((mget_M img l at_ many n_).bind fun r14 =>
if r14 = true then ((mset_M img l at_ many n_ false).bind fun r21 =>
some (r21.1, r21.2)) else (some (3, l)))
def pgive_M (img : List Int) (l : List (Int × Int)) (at_ : Int) (many : Int) (pm : Int) (n_ : Int) : Option (Int × List (Int × Int)) :=
 if n_ < 1 then (pgive_J1 img l at_ many n_ (decide (n_ < 1))) else (pgive_J1 img l at_ many n_ (decide (n_ ≥ pm)))
theorem pgive_walk {img : List Int} {l : List (Int × Int)} {at_ : Int} {many : Int} {pm : Int} {n_ : Int} {mb vb : Nat} {r : Int × List (Int × Int)} (B : Nat) (w : World) (hm : pgive_M img l at_ many pm n_ = some r) : Spec Tryz.prog 140 #[(.agg #[(zp mb), (zi pm)]), (zi n_)] B w [zb mb 213 [(zp vb), (zi at_), (zi many)], viewA (ptr vb) img l] (fun v H' => v = .int .i64 r.1 ∧ H' = [zb mb 213 [(zp vb), (zi at_), (zi many)], viewA (ptr vb) img r.2]) := by
 refine spec_W Tryz.func140 rfl fun l0 hs => ?_
 unfold pgive_M at hm
 refine W.sr fun K1 hK1 => ?_
 refine zN [(zp mb), (zi pm)] 206 hs fun b4 w2 hs3 => ?_
 refine zE 1 (hK1 _ _ ?_)
 refine W.seq fun K5 hK5 => ?_
 refine W.block ?_
 refine W.seq_join (fun s_ w_ => ∃ (p6 : Bool), (∃ us, s_ = slots 22 [(1, (zi n_)), (2, (zp b4)), (5, (.bool p6))] us) ∧ St B w l0 w_ [viewA (ptr vb) img l, zb mb 213 [(zp vb), (zi at_), (zi many)], zb b4 206 [(zp mb), (zi pm)]] ∧ pgive_J1 img l at_ many n_ p6 = some r) ?_ ?_
 ·
  rintro _ w7 ⟨p6, ⟨us, rfl⟩, hs8, hm⟩
  unfold pgive_J1 at hm
  refine W.cond p6 (by kernel_rfl) (fun h9 => ?_) (fun h9 => ?_)
  ·
   have h9p : p6 = true := h9
   replace hm := ite_yes hm h9p
   refine W.sr fun K10 hK10 => ?_
   refine zE 1 (hK10 _ _ ?_)
   refine W.ret (ret_block (ret_seq ?_))
   obtain rfl := some_inj hm
   have hs11 := St.f1 hs8
   have hs12 := St.tk2 hs11
   refine ret_of (zi 1) (by kernel_rfl) ⟨_, ⟨rfl, rfl⟩, hs12⟩
  have h9p : ¬ (p6 = true) := ne_true_of_eq_false h9
  replace hm := ite_no hm h9p
  refine W.sr fun K13 hK13 => ?_
  refine zR 1 ?_
  refine zL ⟨b4, 0, none⟩ (zp mb) (hs8.cellAt 2 rfl rfl) ?_
  refine zR 1 ?_
  obtain ⟨r14, h15, hm⟩ := bind_some hm
  refine zC00 hs8 (mget_walk (hmb := (hs8.heapAt 1 rfl)) (hv := (hs8.entAt 0 rfl viewA_at)) (hm := h15) B _) fun w16 hs18 => ?_
  refine zE 2 (hK13 _ _ ?_)
  refine W.cond (!r14) (by kernel_rfl) (fun h19 => ?_) (fun h19 => ?_)
  rotate_left
  ·
   have h19p : r14 = true := (bnot_false h19)
   replace hm := ite_yes hm h19p
   refine W.skip ?_
   refine normal_block ?_
   refine hK5 _ _ ?_
   refine W.sr fun K20 hK20 => ?_
   refine zR 1 ?_
   refine zL ⟨b4, 0, none⟩ (zp mb) (hs18.cellAt 2 rfl rfl) ?_
   refine zR 1 ?_
   obtain ⟨r21, h22, hm⟩ := bind_some hm
   have hs23 := St.f1 hs18
   refine zC22 hs23 (mset_walk (hm := h22) B _) fun w24 hs26 => ?_
   refine zE 1 (hK20 _ _ ?_)
   refine W.ret ?_
   obtain rfl := some_inj hm
   have hs27 := St.f1 hs26
   have hs28 := St.f1 hs27
   have hs29 := St.tk2 hs28
   refine ret_of (zi r21.1) (by kernel_rfl) ⟨_, ⟨rfl, rfl⟩, hs29⟩
  have h19p : ¬ (r14 = true) := ne_true_of_eq_false (bnot_true h19)
  replace hm := ite_no hm h19p
  refine W.sr fun K30 hK30 => ?_
  refine zE 1 (hK30 _ _ ?_)
  refine W.ret (ret_block (ret_seq ?_))
  obtain rfl := some_inj hm
  have hs31 := St.f1 hs18
  have hs32 := St.tk2 hs31
  refine ret_of (zi 3) (by kernel_rfl) ⟨_, ⟨rfl, rfl⟩, hs32⟩
 refine W.sr fun K33 hK33 => ?_
 refine zE 3 (hK33 _ _ ?_)
 refine W.cond (decide (n_ < 1)) (by kernel_rfl) (fun h34 => ?_) (fun h34 => ?_)
 ·
  obtain ⟨h34p, hm⟩ := iY hm h34
  refine W.skip ?_
  have hs35 := St.f1 hs3
  have hs36 := St.f2 hs35
  exact ⟨(decide (n_ < 1)), slots_intro _ (by kernel_rfl), hs36, hm⟩
 obtain ⟨h34p, hm⟩ := iN hm h34
 refine W.region ?_
 refine zR 2 ?_
 refine zL ⟨b4, 1, none⟩ (zi pm) (hs3.cellAt 0 rfl rfl) ?_
 refine zE 2 ?_
 have hs37 := St.f1 hs3
 have hs38 := St.f2 hs37
 exact ⟨(decide (n_ ≥ pm)), slots_intro _ (by kernel_rfl), hs38, hm⟩
def aclear_B0 (img : List Int) (ns : List Int) (k6 : ((List (Int × Int)) × Int) → Option (Int × List (Int × Int))) (l4 : List (Int × Int)) (p5 : Int) : Option (Int × List (Int × Int)) :=
 if p5 < (ns.length : Int) then (need (0 ≤ p5 ∧ p5 < (ns.length : Int)) <|
(some (vput img l4 (ns.getD p5.toNat 0) 0)).bind fun r21 =>
if r21.1 = 0 then (need (-9223372036854775808 ≤ (p5 + 1) ∧ (p5 + 1) ≤ 9223372036854775807) <|
k6 (r21.2, (p5 + 1))) else (some (r21.1, r21.2))) else (some (0, l4))
def aclear_M (img : List Int) (l : List (Int × Int)) (ns : List Int) : Option (Int × List (Int × Int)) :=
 iter (fun k_ s_ => aclear_B0 img ns k_ s_.1 s_.2) FUEL (l, 0)
theorem aclear_walk {img : List Int} {l : List (Int × Int)} {gw : Int} {gi : Int} {gb : Int} {ns : List Int} {ab ib bb vb : Nat} {wa : Option Addr} {wc : Nat} {r : Int × List (Int × Int)} (B : Nat) (w : World) (hm : aclear_M img l ns = some r) : Spec Tryz.prog 154 #[(zp ab), (.slice wa ns.length wc)] B w [zb ab 208 [(zp vb), (zi gw), (zi gi), (zi gb), (zp ib), (zi gi), (zp bb), (zi gb)], kInt.row wa wc ns, viewA (ptr vb) img l] (fun v H' => v = .int .i64 r.1 ∧ H' = [zb ab 208 [(zp vb), (zi gw), (zi gi), (zi gb), (zp ib), (zi gi), (zp bb), (zi gb)], kInt.row wa wc ns, viewA (ptr vb) img r.2]) := by
 refine spec_W Tryz.func154 rfl fun l0 hs => ?_
 unfold aclear_M at hm
 refine W.sr fun K1 hK1 => ?_
 refine zE 1 (hK1 _ _ ?_)
 refine W.seq fun K2 hK2 => ?_
 refine W.sr fun K3 hK3 => ?_
 refine zE 3 (hK3 _ _ ?_)
 refine W.block ?_
 have hs10 := St.f1 hs
 have hs11 := St.f1 hs10
 have hs12 := St.f2 hs11
 refine W.loop_iter (G := (List (Int × Int)) × Int) (σ := (List (Int × Int)) × Int) (fun | (l4, p5) => (l4, p5)) (fun | (l4, p5), s_, w_ => (∃ us, s_ = slots 24 [(0, (zp ab)), (8, (.slice wa ns.length wc)), (9, (zi (ns.length : Int))), (10, (zi p5))] us) ∧ St B w l0 w_ [viewA (ptr vb) img l4, zb ab 208 [(zp vb), (zi gw), (zi gi), (zi gb), (zp ib), (zi gi), (zp bb), (zi gb)], kInt.row wa wc ns]) (l, 0) ⟨slots_intro _ (by kernel_rfl), hs12⟩ hm ?_
 rintro k6 ih7 ⟨l4, p5⟩ _ w8 ⟨⟨us, rfl⟩, hs9⟩ hm
 replace hm : aclear_B0 img ns k6 l4 p5 = some r := hm
 unfold aclear_B0 at hm
 refine W.sr fun K13 hK13 => ?_
 refine zE 1 (hK13 _ _ ?_)
 refine W.seq fun K14 hK14 => ?_
 refine W.cond (decide (p5 < (ns.length : Int))) (by kernel_rfl) (fun h15 => ?_) (fun h15 => ?_)
 ·
  obtain ⟨h15p, hm⟩ := iY hm h15
  refine W.skip ?_
  refine hK14 _ _ ?_
  refine W.seq fun K16 hK16 => ?_
  refine W.block ?_
  refine W.sr fun K17 hK17 => ?_
  obtain ⟨h19, hm⟩ := need_some hm
  have hk18 := lt_toNat h19
  refine ops_R (runs_index (a := wa) (n := ns.length) (z := p5) (size := 1) p5.toNat (nat_of h19.1) hk18 (kInt.addr (St.kcells kInt hs9 2 rfl) hk18) (by kernel_rfl)) ?_
  refine zL ((adr wa (p5.toNat * 1)).add 0) (zi (ns.getD p5.toNat 0)) (kInt.at (St.kcells kInt hs9 2 rfl) hk18 0 0 rfl) ?_
  refine zE 1 (hK17 _ _ ?_)
  refine W.sr fun K20 hK20 => ?_
  refine zR 3 ?_
  refine zL ⟨ab, 0, none⟩ (zp vb) (hs9.cellAt 1 rfl rfl) ?_
  refine zR 1 ?_
  obtain ⟨r21, h22, hm⟩ := bind_some hm
  replace h22 := some_inj h22
  refine ops_call1 hs9 (by kernel_rfl) (put_spec (p := (zp vb)) (img := img) (l := l4) (at_ := (ns.getD p5.toNat 0)) (x_ := 0) B _) ?_
  rintro _ _ w25 ⟨hv23, hH24⟩ hs26
  rw [h22] at hv23
  try rw [h22] at hH24
  subst hv23 hH24
  have hs27 := St.ap1 hs26
  refine zE 1 (hK20 _ _ ?_)
  refine W.sr fun K28 hK28 => ?_
  refine zE 2 (hK28 _ _ ?_)
  refine W.cond (!decide (r21.1 = 0)) (by kernel_rfl) (fun h29 => ?_) (fun h29 => ?_)
  rotate_left
  ·
   have h29p : r21.1 = 0 := of_decide_eq_true (bnot_false h29)
   replace hm := ite_yes hm h29p
   refine W.skip ?_
   refine normal_block ?_
   refine hK16 _ _ ?_
   refine W.region ?_
   obtain ⟨h30, hm⟩ := need_some hm
   refine zI _ (wrap_i64 h30.1 h30.2) ?_
   refine zE 1 ?_
   refine loopAt_next ?_
   exact ih7 (r21.2, (p5 + 1)) _ _ ⟨slots_intro _ (by kernel_rfl), hs27⟩ hm
  have h29p : ¬ (r21.1 = 0) := of_decide_eq_false (bnot_true h29)
  replace hm := ite_no hm h29p
  refine W.sr fun K31 hK31 => ?_
  refine zE 2 (hK31 _ _ ?_)
  refine W.ret (ret_block (ret_seq (ret_seq (ret_block (ret_seq ?_)))))
  obtain rfl := some_inj hm
  have hs32 := St.f2 hs27
  have hs33 := St.f2 hs32
  refine ret_of (zi r21.1) (by kernel_rfl) ⟨_, ⟨rfl, rfl⟩, hs33⟩
 obtain ⟨h15p, hm⟩ := iN hm h15
 refine W.exit (exit_seq (exit_seq (exit_here ?_)))
 refine hK2 _ _ ?_
 refine W.sr fun K34 hK34 => ?_
 refine zE 1 (hK34 _ _ ?_)
 refine W.ret ?_
 obtain rfl := some_inj hm
 have hs35 := St.f2 hs9
 have hs36 := St.f2 hs35
 refine ret_of (zi 0) (by kernel_rfl) ⟨_, ⟨rfl, rfl⟩, hs36⟩
end Go.Proofs.YtmmclabkkigiaaaGreatDoor

set_option maxRecDepth 20000
namespace Go.Proofs.YtmmclabkkigiaaaGreatDoor
open Go Go.RowKit
theorem own_spec {ab cb vb ib bb : Nat} {gw gi gb n_ : Int} (B : Nat) (w : World) (hpl : -1000000 ≤ (placeOf 9 gw gi gb n_) ∧ (placeOf 9 gw gi gb n_) ≤ 1000000) (hcb : w.heap[cb]? = some (.cells [(zp ab)].toArray 192 (0, 0))) (hab : w.heap[ab]? = some (.cells [(zp vb), (zi gw), (zi gi), (zi gb), (zp ib), (zi gi), (zp bb), (zi gb)].toArray 208 (0, 0))) : Spec Tryz.prog 147 #[(zi n_), (zp cb)] B w [] (fun v H' => ∃ a' c', v = .slice a' 8 c' ∧ H' = [kInt.row a' c' [((placeOf 9 gw gi gb n_) + 0), ((placeOf 9 gw gi gb n_) + 1), ((placeOf 9 gw gi gb n_) + 2), ((placeOf 9 gw gi gb n_) + 3), ((placeOf 9 gw gi gb n_) + 4), ((placeOf 9 gw gi gb n_) + 5), ((placeOf 9 gw gi gb n_) + 6), ((placeOf 9 gw gi gb n_) + 7)]]) := by
 refine spec_Q Tryz.func147 rfl fun hs => ?_
 refine W.sr fun K1 hK1 => ?_
 refine zE 1 (hK1 _ _ ?_)
 refine W.sr fun K2 hK2 => ?_
 refine zL ⟨cb, 0, none⟩ (zp ab) (cell_of_blk (hs.old hcb) rfl) ?_
 refine zR 2 ?_
 refine zG ⟨ab, 1, none⟩ [(zi gw), (zi gi), (zi gb)] (cells_sub (hs.old hab) rfl) ?_
 refine zR 1 ?_
 refine zC00 hs (blockat_spec (gw := gw) (gi := gi) (gb := gb) (n_ := n_) B _) fun w3 hs5 => ?_
 refine zE 1 (hK2 _ _ ?_)
 refine W.seq fun K6 hK6 => ?_
 refine W.sr fun K7 hK7 => ?_
 refine zE 1 (hK7 _ _ ?_)
 refine W.block ?_
 refine W.loop_start ?_
 refine loopAt_round ?_
 refine W.sr fun K8 hK8 => ?_
 refine zE 1 (hK8 _ _ ?_)
 refine W.seq fun K9 hK9 => ?_
 refine W.cond_true true (by kernel_rfl) rfl ?_
 refine W.skip ?_
 refine hK9 _ _ ?_
 refine W.seq fun K10 hK10 => ?_
 refine W.block ?_
 refine W.sr fun K11 hK11 => ?_
 refine zE 2 (hK11 _ _ ?_)
 refine W.region ?_
 refine zR 3 ?_
 have h12 : -9223372036854775808 ≤ ((placeOf 9 gw gi gb n_) + 0) ∧ ((placeOf 9 gw gi gb n_) + 0) ≤ 9223372036854775807 := by omega
 refine zI _ (wrap_i64 h12.1 h12.2) ?_
 refine ops_new (fun b => .slice (some ⟨b, 0, none⟩) 1 1) (.cells [(zi ((placeOf 9 gw gi gb n_) + 0))].toArray 3 (0, 0)) hs5 (by kernel_rfl) (fun b15 w13 hs14 => ?_)
 have hs16 := St.knil kInt hs14
 refine ops_appendK kInt (bytes := 8) (a' := (some ⟨b15, 0, none⟩)) (c' := 1) (l := []) (m := [((placeOf 9 gw gi gb n_) + 0)]) hs16 (by kernel_rfl) (by simp) (cells_blk (hs16.heapAt 1 rfl)) (by (unfold maxLen; try simp) <;> (simp only [List.length_cons, List.length_nil]; omega)) (by (try simp) <;> (simp only [List.length_cons, List.length_nil]; omega)) (fun a17 c18 w19 hs20 => ?_)
 have hs21 : St B w [] w19 [kInt.row a17 c18 ([((placeOf 9 gw gi gb n_) + 0)]), zb b15 3 [(zi ((placeOf 9 gw gi gb n_) + 0))]] := hs20
 refine zE 1 ?_
 refine normal_block ?_
 refine hK10 _ _ ?_
 refine W.region ?_
 refine zE 2 ?_
 refine loopAt_next ?_
 refine loopAt_round ?_
 refine W.sr fun K22 hK22 => ?_
 refine zE 1 (hK22 _ _ ?_)
 refine W.seq fun K23 hK23 => ?_
 refine W.cond_true true (by kernel_rfl) rfl ?_
 refine W.skip ?_
 refine hK23 _ _ ?_
 refine W.seq fun K24 hK24 => ?_
 refine W.block ?_
 refine W.sr fun K25 hK25 => ?_
 refine zE 2 (hK25 _ _ ?_)
 refine W.region ?_
 refine zR 3 ?_
 have h26 : -9223372036854775808 ≤ ((placeOf 9 gw gi gb n_) + 1) ∧ ((placeOf 9 gw gi gb n_) + 1) ≤ 9223372036854775807 := by omega
 refine zI _ (wrap_i64 h26.1 h26.2) ?_
 refine ops_new (fun b => .slice (some ⟨b, 0, none⟩) 1 1) (.cells [(zi ((placeOf 9 gw gi gb n_) + 1))].toArray 3 (0, 0)) hs21 (by kernel_rfl) (fun b29 w27 hs28 => ?_)
 have hs30 := St.f1 hs28
 refine ops_appendK kInt (bytes := 8) (a' := (some ⟨b29, 0, none⟩)) (c' := 1) (l := [((placeOf 9 gw gi gb n_) + 0)]) (m := [((placeOf 9 gw gi gb n_) + 1)]) hs30 (by kernel_rfl) (by simp) (cells_blk (hs30.heapAt 1 rfl)) (by (unfold maxLen; try simp) <;> (simp only [List.length_cons, List.length_nil]; omega)) (by (try simp) <;> (simp only [List.length_cons, List.length_nil]; omega)) (fun a31 c32 w33 hs34 => ?_)
 have hs35 : St B w [] w33 [kInt.row a31 c32 ([((placeOf 9 gw gi gb n_) + 0), ((placeOf 9 gw gi gb n_) + 1)]), zb b29 3 [(zi ((placeOf 9 gw gi gb n_) + 1))], zb b15 3 [(zi ((placeOf 9 gw gi gb n_) + 0))]] := hs34
 refine zE 1 ?_
 refine normal_block ?_
 refine hK24 _ _ ?_
 refine W.region ?_
 refine zE 2 ?_
 refine loopAt_next ?_
 refine loopAt_round ?_
 refine W.sr fun K36 hK36 => ?_
 refine zE 1 (hK36 _ _ ?_)
 refine W.seq fun K37 hK37 => ?_
 refine W.cond_true true (by kernel_rfl) rfl ?_
 refine W.skip ?_
 refine hK37 _ _ ?_
 refine W.seq fun K38 hK38 => ?_
 refine W.block ?_
 refine W.sr fun K39 hK39 => ?_
 refine zE 2 (hK39 _ _ ?_)
 refine W.region ?_
 refine zR 3 ?_
 have h40 : -9223372036854775808 ≤ ((placeOf 9 gw gi gb n_) + 2) ∧ ((placeOf 9 gw gi gb n_) + 2) ≤ 9223372036854775807 := by omega
 refine zI _ (wrap_i64 h40.1 h40.2) ?_
 refine ops_new (fun b => .slice (some ⟨b, 0, none⟩) 1 1) (.cells [(zi ((placeOf 9 gw gi gb n_) + 2))].toArray 3 (0, 0)) hs35 (by kernel_rfl) (fun b43 w41 hs42 => ?_)
 have hs44 := St.f1 hs42
 refine ops_appendK kInt (bytes := 8) (a' := (some ⟨b43, 0, none⟩)) (c' := 1) (l := [((placeOf 9 gw gi gb n_) + 0), ((placeOf 9 gw gi gb n_) + 1)]) (m := [((placeOf 9 gw gi gb n_) + 2)]) hs44 (by kernel_rfl) (by simp) (cells_blk (hs44.heapAt 1 rfl)) (by (unfold maxLen; try simp) <;> (simp only [List.length_cons, List.length_nil]; omega)) (by (try simp) <;> (simp only [List.length_cons, List.length_nil]; omega)) (fun a45 c46 w47 hs48 => ?_)
 have hs49 : St B w [] w47 [kInt.row a45 c46 ([((placeOf 9 gw gi gb n_) + 0), ((placeOf 9 gw gi gb n_) + 1), ((placeOf 9 gw gi gb n_) + 2)]), zb b43 3 [(zi ((placeOf 9 gw gi gb n_) + 2))], zb b29 3 [(zi ((placeOf 9 gw gi gb n_) + 1))], zb b15 3 [(zi ((placeOf 9 gw gi gb n_) + 0))]] := hs48
 refine zE 1 ?_
 refine normal_block ?_
 refine hK38 _ _ ?_
 refine W.region ?_
 refine zE 2 ?_
 refine loopAt_next ?_
 refine loopAt_round ?_
 refine W.sr fun K50 hK50 => ?_
 refine zE 1 (hK50 _ _ ?_)
 refine W.seq fun K51 hK51 => ?_
 refine W.cond_true true (by kernel_rfl) rfl ?_
 refine W.skip ?_
 refine hK51 _ _ ?_
 refine W.seq fun K52 hK52 => ?_
 refine W.block ?_
 refine W.sr fun K53 hK53 => ?_
 refine zE 2 (hK53 _ _ ?_)
 refine W.region ?_
 refine zR 3 ?_
 have h54 : -9223372036854775808 ≤ ((placeOf 9 gw gi gb n_) + 3) ∧ ((placeOf 9 gw gi gb n_) + 3) ≤ 9223372036854775807 := by omega
 refine zI _ (wrap_i64 h54.1 h54.2) ?_
 refine ops_new (fun b => .slice (some ⟨b, 0, none⟩) 1 1) (.cells [(zi ((placeOf 9 gw gi gb n_) + 3))].toArray 3 (0, 0)) hs49 (by kernel_rfl) (fun b57 w55 hs56 => ?_)
 have hs58 := St.f1 hs56
 refine ops_appendK kInt (bytes := 8) (a' := (some ⟨b57, 0, none⟩)) (c' := 1) (l := [((placeOf 9 gw gi gb n_) + 0), ((placeOf 9 gw gi gb n_) + 1), ((placeOf 9 gw gi gb n_) + 2)]) (m := [((placeOf 9 gw gi gb n_) + 3)]) hs58 (by kernel_rfl) (by simp) (cells_blk (hs58.heapAt 1 rfl)) (by (unfold maxLen; try simp) <;> (simp only [List.length_cons, List.length_nil]; omega)) (by (try simp) <;> (simp only [List.length_cons, List.length_nil]; omega)) (fun a59 c60 w61 hs62 => ?_)
 have hs63 : St B w [] w61 [kInt.row a59 c60 ([((placeOf 9 gw gi gb n_) + 0), ((placeOf 9 gw gi gb n_) + 1), ((placeOf 9 gw gi gb n_) + 2), ((placeOf 9 gw gi gb n_) + 3)]), zb b57 3 [(zi ((placeOf 9 gw gi gb n_) + 3))], zb b43 3 [(zi ((placeOf 9 gw gi gb n_) + 2))], zb b29 3 [(zi ((placeOf 9 gw gi gb n_) + 1))], zb b15 3 [(zi ((placeOf 9 gw gi gb n_) + 0))]] := hs62
 refine zE 1 ?_
 refine normal_block ?_
 refine hK52 _ _ ?_
 refine W.region ?_
 refine zE 2 ?_
 refine loopAt_next ?_
 refine loopAt_round ?_
 refine W.sr fun K64 hK64 => ?_
 refine zE 1 (hK64 _ _ ?_)
 refine W.seq fun K65 hK65 => ?_
 refine W.cond_true true (by kernel_rfl) rfl ?_
 refine W.skip ?_
 refine hK65 _ _ ?_
 refine W.seq fun K66 hK66 => ?_
 refine W.block ?_
 refine W.sr fun K67 hK67 => ?_
 refine zE 2 (hK67 _ _ ?_)
 refine W.region ?_
 refine zR 3 ?_
 have h68 : -9223372036854775808 ≤ ((placeOf 9 gw gi gb n_) + 4) ∧ ((placeOf 9 gw gi gb n_) + 4) ≤ 9223372036854775807 := by omega
 refine zI _ (wrap_i64 h68.1 h68.2) ?_
 refine ops_new (fun b => .slice (some ⟨b, 0, none⟩) 1 1) (.cells [(zi ((placeOf 9 gw gi gb n_) + 4))].toArray 3 (0, 0)) hs63 (by kernel_rfl) (fun b71 w69 hs70 => ?_)
 have hs72 := St.f1 hs70
 refine ops_appendK kInt (bytes := 8) (a' := (some ⟨b71, 0, none⟩)) (c' := 1) (l := [((placeOf 9 gw gi gb n_) + 0), ((placeOf 9 gw gi gb n_) + 1), ((placeOf 9 gw gi gb n_) + 2), ((placeOf 9 gw gi gb n_) + 3)]) (m := [((placeOf 9 gw gi gb n_) + 4)]) hs72 (by kernel_rfl) (by simp) (cells_blk (hs72.heapAt 1 rfl)) (by (unfold maxLen; try simp) <;> (simp only [List.length_cons, List.length_nil]; omega)) (by (try simp) <;> (simp only [List.length_cons, List.length_nil]; omega)) (fun a73 c74 w75 hs76 => ?_)
 have hs77 : St B w [] w75 [kInt.row a73 c74 ([((placeOf 9 gw gi gb n_) + 0), ((placeOf 9 gw gi gb n_) + 1), ((placeOf 9 gw gi gb n_) + 2), ((placeOf 9 gw gi gb n_) + 3), ((placeOf 9 gw gi gb n_) + 4)]), zb b71 3 [(zi ((placeOf 9 gw gi gb n_) + 4))], zb b57 3 [(zi ((placeOf 9 gw gi gb n_) + 3))], zb b43 3 [(zi ((placeOf 9 gw gi gb n_) + 2))], zb b29 3 [(zi ((placeOf 9 gw gi gb n_) + 1))], zb b15 3 [(zi ((placeOf 9 gw gi gb n_) + 0))]] := hs76
 refine zE 1 ?_
 refine normal_block ?_
 refine hK66 _ _ ?_
 refine W.region ?_
 refine zE 2 ?_
 refine loopAt_next ?_
 refine loopAt_round ?_
 refine W.sr fun K78 hK78 => ?_
 refine zE 1 (hK78 _ _ ?_)
 refine W.seq fun K79 hK79 => ?_
 refine W.cond_true true (by kernel_rfl) rfl ?_
 refine W.skip ?_
 refine hK79 _ _ ?_
 refine W.seq fun K80 hK80 => ?_
 refine W.block ?_
 refine W.sr fun K81 hK81 => ?_
 refine zE 2 (hK81 _ _ ?_)
 refine W.region ?_
 refine zR 3 ?_
 have h82 : -9223372036854775808 ≤ ((placeOf 9 gw gi gb n_) + 5) ∧ ((placeOf 9 gw gi gb n_) + 5) ≤ 9223372036854775807 := by omega
 refine zI _ (wrap_i64 h82.1 h82.2) ?_
 refine ops_new (fun b => .slice (some ⟨b, 0, none⟩) 1 1) (.cells [(zi ((placeOf 9 gw gi gb n_) + 5))].toArray 3 (0, 0)) hs77 (by kernel_rfl) (fun b85 w83 hs84 => ?_)
 have hs86 := St.f1 hs84
 refine ops_appendK kInt (bytes := 8) (a' := (some ⟨b85, 0, none⟩)) (c' := 1) (l := [((placeOf 9 gw gi gb n_) + 0), ((placeOf 9 gw gi gb n_) + 1), ((placeOf 9 gw gi gb n_) + 2), ((placeOf 9 gw gi gb n_) + 3), ((placeOf 9 gw gi gb n_) + 4)]) (m := [((placeOf 9 gw gi gb n_) + 5)]) hs86 (by kernel_rfl) (by simp) (cells_blk (hs86.heapAt 1 rfl)) (by (unfold maxLen; try simp) <;> (simp only [List.length_cons, List.length_nil]; omega)) (by (try simp) <;> (simp only [List.length_cons, List.length_nil]; omega)) (fun a87 c88 w89 hs90 => ?_)
 have hs91 : St B w [] w89 [kInt.row a87 c88 ([((placeOf 9 gw gi gb n_) + 0), ((placeOf 9 gw gi gb n_) + 1), ((placeOf 9 gw gi gb n_) + 2), ((placeOf 9 gw gi gb n_) + 3), ((placeOf 9 gw gi gb n_) + 4), ((placeOf 9 gw gi gb n_) + 5)]), zb b85 3 [(zi ((placeOf 9 gw gi gb n_) + 5))], zb b71 3 [(zi ((placeOf 9 gw gi gb n_) + 4))], zb b57 3 [(zi ((placeOf 9 gw gi gb n_) + 3))], zb b43 3 [(zi ((placeOf 9 gw gi gb n_) + 2))], zb b29 3 [(zi ((placeOf 9 gw gi gb n_) + 1))], zb b15 3 [(zi ((placeOf 9 gw gi gb n_) + 0))]] := hs90
 refine zE 1 ?_
 refine normal_block ?_
 refine hK80 _ _ ?_
 refine W.region ?_
 refine zE 2 ?_
 refine loopAt_next ?_
 refine loopAt_round ?_
 refine W.sr fun K92 hK92 => ?_
 refine zE 1 (hK92 _ _ ?_)
 refine W.seq fun K93 hK93 => ?_
 refine W.cond_true true (by kernel_rfl) rfl ?_
 refine W.skip ?_
 refine hK93 _ _ ?_
 refine W.seq fun K94 hK94 => ?_
 refine W.block ?_
 refine W.sr fun K95 hK95 => ?_
 refine zE 2 (hK95 _ _ ?_)
 refine W.region ?_
 refine zR 3 ?_
 have h96 : -9223372036854775808 ≤ ((placeOf 9 gw gi gb n_) + 6) ∧ ((placeOf 9 gw gi gb n_) + 6) ≤ 9223372036854775807 := by omega
 refine zI _ (wrap_i64 h96.1 h96.2) ?_
 refine ops_new (fun b => .slice (some ⟨b, 0, none⟩) 1 1) (.cells [(zi ((placeOf 9 gw gi gb n_) + 6))].toArray 3 (0, 0)) hs91 (by kernel_rfl) (fun b99 w97 hs98 => ?_)
 have hs100 := St.f1 hs98
 refine ops_appendK kInt (bytes := 8) (a' := (some ⟨b99, 0, none⟩)) (c' := 1) (l := [((placeOf 9 gw gi gb n_) + 0), ((placeOf 9 gw gi gb n_) + 1), ((placeOf 9 gw gi gb n_) + 2), ((placeOf 9 gw gi gb n_) + 3), ((placeOf 9 gw gi gb n_) + 4), ((placeOf 9 gw gi gb n_) + 5)]) (m := [((placeOf 9 gw gi gb n_) + 6)]) hs100 (by kernel_rfl) (by simp) (cells_blk (hs100.heapAt 1 rfl)) (by (unfold maxLen; try simp) <;> (simp only [List.length_cons, List.length_nil]; omega)) (by (try simp) <;> (simp only [List.length_cons, List.length_nil]; omega)) (fun a101 c102 w103 hs104 => ?_)
 have hs105 : St B w [] w103 [kInt.row a101 c102 ([((placeOf 9 gw gi gb n_) + 0), ((placeOf 9 gw gi gb n_) + 1), ((placeOf 9 gw gi gb n_) + 2), ((placeOf 9 gw gi gb n_) + 3), ((placeOf 9 gw gi gb n_) + 4), ((placeOf 9 gw gi gb n_) + 5), ((placeOf 9 gw gi gb n_) + 6)]), zb b99 3 [(zi ((placeOf 9 gw gi gb n_) + 6))], zb b85 3 [(zi ((placeOf 9 gw gi gb n_) + 5))], zb b71 3 [(zi ((placeOf 9 gw gi gb n_) + 4))], zb b57 3 [(zi ((placeOf 9 gw gi gb n_) + 3))], zb b43 3 [(zi ((placeOf 9 gw gi gb n_) + 2))], zb b29 3 [(zi ((placeOf 9 gw gi gb n_) + 1))], zb b15 3 [(zi ((placeOf 9 gw gi gb n_) + 0))]] := hs104
 refine zE 1 ?_
 refine normal_block ?_
 refine hK94 _ _ ?_
 refine W.region ?_
 refine zE 2 ?_
 refine loopAt_next ?_
 refine loopAt_round ?_
 refine W.sr fun K106 hK106 => ?_
 refine zE 1 (hK106 _ _ ?_)
 refine W.seq fun K107 hK107 => ?_
 refine W.cond_true true (by kernel_rfl) rfl ?_
 refine W.skip ?_
 refine hK107 _ _ ?_
 refine W.seq fun K108 hK108 => ?_
 refine W.block ?_
 refine W.sr fun K109 hK109 => ?_
 refine zE 2 (hK109 _ _ ?_)
 refine W.region ?_
 refine zR 3 ?_
 have h110 : -9223372036854775808 ≤ ((placeOf 9 gw gi gb n_) + 7) ∧ ((placeOf 9 gw gi gb n_) + 7) ≤ 9223372036854775807 := by omega
 refine zI _ (wrap_i64 h110.1 h110.2) ?_
 refine ops_new (fun b => .slice (some ⟨b, 0, none⟩) 1 1) (.cells [(zi ((placeOf 9 gw gi gb n_) + 7))].toArray 3 (0, 0)) hs105 (by kernel_rfl) (fun b113 w111 hs112 => ?_)
 have hs114 := St.f1 hs112
 refine ops_appendK kInt (bytes := 8) (a' := (some ⟨b113, 0, none⟩)) (c' := 1) (l := [((placeOf 9 gw gi gb n_) + 0), ((placeOf 9 gw gi gb n_) + 1), ((placeOf 9 gw gi gb n_) + 2), ((placeOf 9 gw gi gb n_) + 3), ((placeOf 9 gw gi gb n_) + 4), ((placeOf 9 gw gi gb n_) + 5), ((placeOf 9 gw gi gb n_) + 6)]) (m := [((placeOf 9 gw gi gb n_) + 7)]) hs114 (by kernel_rfl) (by simp) (cells_blk (hs114.heapAt 1 rfl)) (by (unfold maxLen; try simp) <;> (simp only [List.length_cons, List.length_nil]; omega)) (by (try simp) <;> (simp only [List.length_cons, List.length_nil]; omega)) (fun a115 c116 w117 hs118 => ?_)
 have hs119 : St B w [] w117 [kInt.row a115 c116 ([((placeOf 9 gw gi gb n_) + 0), ((placeOf 9 gw gi gb n_) + 1), ((placeOf 9 gw gi gb n_) + 2), ((placeOf 9 gw gi gb n_) + 3), ((placeOf 9 gw gi gb n_) + 4), ((placeOf 9 gw gi gb n_) + 5), ((placeOf 9 gw gi gb n_) + 6), ((placeOf 9 gw gi gb n_) + 7)]), zb b113 3 [(zi ((placeOf 9 gw gi gb n_) + 7))], zb b99 3 [(zi ((placeOf 9 gw gi gb n_) + 6))], zb b85 3 [(zi ((placeOf 9 gw gi gb n_) + 5))], zb b71 3 [(zi ((placeOf 9 gw gi gb n_) + 4))], zb b57 3 [(zi ((placeOf 9 gw gi gb n_) + 3))], zb b43 3 [(zi ((placeOf 9 gw gi gb n_) + 2))], zb b29 3 [(zi ((placeOf 9 gw gi gb n_) + 1))], zb b15 3 [(zi ((placeOf 9 gw gi gb n_) + 0))]] := hs118
 refine zE 1 ?_
 refine normal_block ?_
 refine hK108 _ _ ?_
 refine W.region ?_
 refine zE 2 ?_
 refine loopAt_next ?_
 refine loopAt_round ?_
 refine W.sr fun K120 hK120 => ?_
 refine zE 1 (hK120 _ _ ?_)
 refine W.seq fun K121 hK121 => ?_
 refine W.cond_false false (by kernel_rfl) rfl ?_
 refine W.exit (exit_seq (exit_seq (exit_here ?_)))
 refine hK6 _ _ ?_
 refine W.sr fun K122 hK122 => ?_
 refine zE 2 (hK122 _ _ ?_)
 refine W.ret ?_
 have hs123 := St.tk1 hs119
 refine ret_of (.slice a115 (([((placeOf 9 gw gi gb n_) + 0), ((placeOf 9 gw gi gb n_) + 1), ((placeOf 9 gw gi gb n_) + 2), ((placeOf 9 gw gi gb n_) + 3), ((placeOf 9 gw gi gb n_) + 4), ((placeOf 9 gw gi gb n_) + 5), ((placeOf 9 gw gi gb n_) + 6), ((placeOf 9 gw gi gb n_) + 7)]).length) c116) (by kernel_rfl) ⟨_, ⟨a115, c116, rfl, rfl⟩, hs123⟩
end Go.Proofs.YtmmclabkkigiaaaGreatDoor

set_option maxRecDepth 20000
namespace Go.Proofs.YtmmclabkkigiaaaGreatDoor
open Go Go.RowKit
def atake1_J1 (r6 : Int × Bool) (p22 : Int) (l23 : List (Int × Int)) : Option (Int × Int × List (Int × Int)) :=
 if p22 = 0 then (some (r6.1, 0, l23)) else (some (0, p22, l23))
def atake1_J2 (img : List Int) (gw : Int) (gi : Int) (gb : Int) (r6 : Int × Bool) (r15 : Int × List (Int × Int)) (p39 : Bool) : Option (Int × Int × List (Int × Int)) :=
 if p39 = true then (need (-1000000 ≤ (placeOf 9 gw gi gb r6.1) ∧ (placeOf 9 gw gi gb r6.1) ≤ 1000000) <|
(aclear_M img r15.2 ([((placeOf 9 gw gi gb r6.1) + 0), ((placeOf 9 gw gi gb r6.1) + 1), ((placeOf 9 gw gi gb r6.1) + 2), ((placeOf 9 gw gi gb r6.1) + 3), ((placeOf 9 gw gi gb r6.1) + 4), ((placeOf 9 gw gi gb r6.1) + 5), ((placeOf 9 gw gi gb r6.1) + 6), ((placeOf 9 gw gi gb r6.1) + 7)])).bind fun r49 =>
atake1_J1 r6 r49.1 r49.2) else (atake1_J1 r6 r15.1 r15.2)
def atake1_M (img : List Int) (l : List (Int × Int)) (gw : Int) (gi : Int) (gb : Int) (at_ : Int) (many : Int) : Option (Int × Int × List (Int × Int)) :=
 (mclear_M img l at_ many).bind fun r6 =>
if r6.2 = true then ((mset_M img l at_ many r6.1 true).bind fun r15 =>
if r15.1 = 0 then (atake1_J2 img gw gi gb r6 r15 true) else (atake1_J2 img gw gi gb r6 r15 false)) else (some (0, 7, l))
theorem atake1_walk {img : List Int} {l : List (Int × Int)} {gw : Int} {gi : Int} {gb : Int} {at_ : Int} {many : Int} {pm : Int} {ab ib bb vb mb cb : Nat} {r : Int × Int × List (Int × Int)} (B : Nat) (w : World) (hG : 1 < B) (hT : CellsAt (some ⟨1, 0, none⟩) tab8 w) (hm : atake1_M img l gw gi gb at_ many = some r) : Spec Tryz.prog 146 #[(zp ab), (.agg #[(zp mb), (zi pm)]), (.func (.func 147) #[] #[(zp cb)])] B w [zb ab 208 [(zp vb), (zi gw), (zi gi), (zi gb), (zp ib), (zi gi), (zp bb), (zi gb)], zb mb 213 [(zp vb), (zi at_), (zi many)], zb cb 192 [(zp ab)], viewA (ptr vb) img l] (fun v H' => v = .tuple #[.int .i64 r.1, .int .i64 r.2.1] ∧ H' = [zb ab 208 [(zp vb), (zi gw), (zi gi), (zi gb), (zp ib), (zi gi), (zp bb), (zi gb)], zb mb 213 [(zp vb), (zi at_), (zi many)], zb cb 192 [(zp ab)], viewA (ptr vb) img r.2.2]) := by
 refine spec_W Tryz.func146 rfl fun l0 hs => ?_
 unfold atake1_M at hm
 refine W.sr fun K1 hK1 => ?_
 refine zN [(zp mb), (zi pm)] 206 hs fun b4 w2 hs3 => ?_
 refine zE 2 (hK1 _ _ ?_)
 refine W.sr fun K5 hK5 => ?_
 refine zR 1 ?_
 refine zL ⟨b4, 0, none⟩ (zp mb) (hs3.cellAt 0 rfl rfl) ?_
 obtain ⟨r6, h7, hm⟩ := bind_some hm
 refine zC00 hs3 (mclear_walk (hmb := (hs3.heapAt 2 rfl)) (hv := (hs3.entAt 4 rfl viewA_at)) (hT := (hs3.oldCellsB hG hT)) (hm := h7) B _) fun w8 hs10 => ?_
 refine zE 5 (hK5 _ _ ?_)
 refine W.seq fun K11 hK11 => ?_
 refine W.sr fun K12 hK12 => ?_
 refine zE 2 (hK12 _ _ ?_)
 refine W.cond (!r6.2) (by kernel_rfl) (fun h13 => ?_) (fun h13 => ?_)
 rotate_left
 ·
  have h13p : r6.2 = true := (bnot_false h13)
  replace hm := ite_yes hm h13p
  refine W.skip ?_
  refine hK11 _ _ ?_
  refine W.sr fun K14 hK14 => ?_
  refine zR 1 ?_
  refine zL ⟨b4, 0, none⟩ (zp mb) (hs10.cellAt 0 rfl rfl) ?_
  refine zR 1 ?_
  obtain ⟨r15, h16, hm⟩ := bind_some hm
  have hs17 := St.f4 hs10
  have hs18 := St.f3 hs17
  refine zC22 hs18 (mset_walk (hm := h16) B _) fun w19 hs21 => ?_
  refine zE 1 (hK14 _ _ ?_)
  refine W.seq_join (fun s_ w_ => ∃ (p22 : Int) (l23 : List (Int × Int)), (∃ us, s_ = slots 38 [(8, (zi r6.1)), (10, (zi p22))] us) ∧ St B w l0 w_ [viewA (ptr vb) img l23, zb mb 213 [(zp vb), (zi at_), (zi many)], zb b4 206 [(zp mb), (zi pm)], zb ab 208 [(zp vb), (zi gw), (zi gi), (zi gb), (zp ib), (zi gi), (zp bb), (zi gb)], zb cb 192 [(zp ab)]] ∧ atake1_J1 r6 p22 l23 = some r) ?_ ?_
  ·
   rintro _ w24 ⟨p22, l23, ⟨us, rfl⟩, hs25, hm⟩
   unfold atake1_J1 at hm
   refine W.seq fun K26 hK26 => ?_
   refine W.sr fun K27 hK27 => ?_
   refine zE 2 (hK27 _ _ ?_)
   refine W.cond (!decide (p22 = 0)) (by kernel_rfl) (fun h28 => ?_) (fun h28 => ?_)
   rotate_left
   ·
    have h28p : p22 = 0 := of_decide_eq_true (bnot_false h28)
    replace hm := ite_yes hm h28p
    refine W.skip ?_
    refine hK26 _ _ ?_
    refine W.sr fun K29 hK29 => ?_
    refine zE 3 (hK29 _ _ ?_)
    refine W.ret ?_
    obtain rfl := some_inj hm
    have hs30 := St.f4 hs25
    have hs31 := St.f2 hs30
    have hs32 := St.f4 hs31
    have hs33 := St.tk4 hs32
    refine ret_of (.tuple #[(zi r6.1), (zi 0)]) (by kernel_rfl) ⟨_, ⟨rfl, rfl⟩, hs33⟩
   have h28p : ¬ (p22 = 0) := of_decide_eq_false (bnot_true h28)
   replace hm := ite_no hm h28p
   refine W.sr fun K34 hK34 => ?_
   refine zE 3 (hK34 _ _ ?_)
   refine W.ret (ret_seq ?_)
   obtain rfl := some_inj hm
   have hs35 := St.f4 hs25
   have hs36 := St.f2 hs35
   have hs37 := St.f4 hs36
   have hs38 := St.tk4 hs37
   refine ret_of (.tuple #[(zi 0), (zi p22)]) (by kernel_rfl) ⟨_, ⟨rfl, rfl⟩, hs38⟩
  refine W.seq_join (fun s_ w_ => ∃ (p39 : Bool), (∃ us, s_ = slots 38 [(0, (zp ab)), (2, (.func (.func 147) #[] #[(zp cb)])), (8, (zi r6.1)), (10, (zi r15.1)), (28, (.bool p39))] us) ∧ St B w l0 w_ [viewA (ptr vb) img r15.2, zb ab 208 [(zp vb), (zi gw), (zi gi), (zi gb), (zp ib), (zi gi), (zp bb), (zi gb)], zb mb 213 [(zp vb), (zi at_), (zi many)], zb b4 206 [(zp mb), (zi pm)], zb cb 192 [(zp ab)]] ∧ atake1_J2 img gw gi gb r6 r15 p39 = some r) ?_ ?_
  ·
   rintro _ w40 ⟨p39, ⟨us, rfl⟩, hs41, hm⟩
   unfold atake1_J2 at hm
   refine W.cond p39 (by kernel_rfl) (fun h42 => ?_) (fun h42 => ?_)
   ·
    have h42p : p39 = true := h42
    replace hm := ite_yes hm h42p
    refine W.region ?_
    refine zR 3 ?_
    obtain ⟨h45, hm⟩ := need_some hm
    refine ops_call0 hs41 (by kernel_rfl) (own_spec (n_ := r6.1) (hpl := h45) (hcb := (hs41.heapAt 4 rfl)) (hab := (hs41.heapAt 1 rfl)) B _) ?_
    rintro _ _ w46 ⟨a43, c44, rfl, rfl⟩ hs47
    have hs48 := St.ap1 hs47
    obtain ⟨r49, h50, hm⟩ := bind_some hm
    have hs51 := St.f1 hs48
    have hs52 := St.f1 hs51
    have hs53 := St.f2 hs52
    refine ops_call3 hs53 (by kernel_rfl) (aclear_walk (hm := h50) B _) ?_
    rintro _ _ w54 ⟨rfl, rfl⟩ hs55
    have hs56 := St.ap3 hs55
    refine zE 1 ?_
    have hs57 := St.f5 hs56
    have hs58 := St.f1 hs57
    have hs59 := St.f5 hs58
    have hs60 := St.f5 hs59
    have hs61 := St.f5 hs60
    have hs62 := St.tk5 hs61
    exact ⟨r49.1, r49.2, slots_intro _ (by kernel_rfl), hs62, hm⟩
   have h42p : ¬ (p39 = true) := ne_true_of_eq_false h42
   replace hm := ite_no hm h42p
   refine W.skip ?_
   have hs63 := St.f4 hs41
   have hs64 := St.f2 hs63
   have hs65 := St.f4 hs64
   have hs66 := St.f4 hs65
   have hs67 := St.f4 hs66
   exact ⟨r15.1, r15.2, slots_intro _ (by kernel_rfl), hs67, hm⟩
  refine W.region ?_
  refine zR 3 ?_
  rcases Bool.eq_false_or_eq_true (decide (r15.1 = 0)) with h68 | h68
  ·
   obtain ⟨h68p, hm⟩ := iY hm h68
   refine zS 25 h68 ?_
   refine zS 24 h68 ?_
   refine zE 3 ?_
   have hs69 := St.f4 hs21
   have hs70 := St.f3 hs69
   have hs71 := St.f2 hs70
   have hs72 := St.f4 hs71
   have hs73 := St.f4 hs72
   exact ⟨true, slots_intro _ (by kernel_rfl), hs73, hm⟩
  obtain ⟨h68p, hm⟩ := iN hm h68
  refine zS 25 h68 ?_
  refine zS 24 h68 ?_
  refine zE 3 ?_
  have hs74 := St.f4 hs21
  have hs75 := St.f3 hs74
  have hs76 := St.f2 hs75
  have hs77 := St.f4 hs76
  have hs78 := St.f4 hs77
  exact ⟨false, slots_intro _ (by kernel_rfl), hs78, hm⟩
 have h13p : ¬ (r6.2 = true) := ne_true_of_eq_false (bnot_true h13)
 replace hm := ite_no hm h13p
 refine W.sr fun K79 hK79 => ?_
 refine zE 2 (hK79 _ _ ?_)
 refine W.ret (ret_seq ?_)
 obtain rfl := some_inj hm
 have hs80 := St.f4 hs10
 have hs81 := St.f4 hs80
 have hs82 := St.f4 hs81
 have hs83 := St.f4 hs82
 have hs84 := St.tk4 hs83
 refine ret_of (.tuple #[(zi 0), (zi 7)]) (by kernel_rfl) ⟨_, ⟨rfl, rfl⟩, hs84⟩
end Go.Proofs.YtmmclabkkigiaaaGreatDoor

set_option maxRecDepth 20000
namespace Go.Proofs.YtmmclabkkigiaaaGreatDoor
open Go Go.RowKit
theorem of_ok {vb : Nat} {img : List Int} {l : List (Int × Int)} {at_ many : Int} (B : Nat) (w : World) (hv : ViewAt (ptr vb) img l w) (hz : (img.length : Int) ≤ 1000000000000) (ho : (0 ≤ at_ ∧ at_ < (img.length : Int)) ∧ (1 ≤ many ∧ many ≤ 1000000000000) ∧ (many - 1) / 64 < (img.length : Int) - at_) : Spec Tryz.prog 135 #[(zp vb), (zi at_), (zi many)] B w [] (fun v H' => ∃ b', v = .tuple #[ptr b', .int .i64 0] ∧ H' = [blk b' (.cells [(zp vb), (zi at_), (zi many)].toArray 213 (0, 0))]) := by
 refine spec_Q Tryz.func135 rfl fun hs => ?_
 refine W.sr fun K1 hK1 => ?_
 refine zE 2 (hK1 _ _ ?_)
 refine W.seq fun K2 hK2 => ?_
 refine W.block ?_
 refine W.sr fun K3 hK3 => ?_
 refine zE 3 (hK3 _ _ ?_)
 refine W.cond_false false (by kernel_rfl) rfl ?_
 refine W.sr fun K4 hK4 => ?_
 refine zE 3 (hK4 _ _ ?_)
 refine W.cond (decide (many < 1)) (by kernel_rfl) (fun h5 => ?_) (fun h5 => ?_)
 ·
  have h5p := of_decide_eq_true h5
  refine W.sr fun K6 hK6 => ?_
  refine zE 2 (hK6 _ _ ?_)
  refine W.ret (ret_block (ret_seq ?_))
  exfalso
  omega
 have h5p := of_decide_eq_false h5
 refine W.seq fun K7 hK7 => ?_
 refine W.sr fun K8 hK8 => ?_
 refine zE 3 (hK8 _ _ ?_)
 refine W.cond (decide (at_ < 0)) (by kernel_rfl) (fun h9 => ?_) (fun h9 => ?_)
 ·
  have h9p := of_decide_eq_true h9
  refine W.skip ?_
  refine hK7 _ _ ?_
  refine W.cond (decide (at_ < 0)) (by kernel_rfl) (fun h10 => ?_) (fun h10 => ?_)
  ·
   have h10p := of_decide_eq_true h10
   refine W.sr fun K11 hK11 => ?_
   refine zE 2 (hK11 _ _ ?_)
   refine W.ret (ret_block (ret_seq ?_))
   exfalso
   omega
  have h10p := of_decide_eq_false h10
  refine W.skip ?_
  refine normal_block ?_
  refine hK2 _ _ ?_
  refine W.sr fun K12 hK12 => ?_
  refine zR 4 ?_
  refine zN [(zp vb), (zi at_), (zi many)] 213 hs fun b15 w13 hs14 => ?_
  refine zE 2 (hK12 _ _ ?_)
  refine W.ret ?_
  refine ret_of (.tuple #[(zp b15), (zi 0)]) (by kernel_rfl) ⟨_, ⟨b15, rfl, rfl⟩, hs14⟩
 have h9p := of_decide_eq_false h9
 refine W.sr fun K16 hK16 => ?_
 refine zR 2 ?_
 refine zC00 hs (len_spec (hv := (viewAt_old hs hv)) B _) fun w17 hs19 => ?_
 refine zE 2 (hK16 _ _ ?_)
 refine W.cond (decide (at_ ≥ (img.length : Int))) (by kernel_rfl) (fun h20 => ?_) (fun h20 => ?_)
 ·
  have h20p := of_decide_eq_true h20
  refine W.skip ?_
  refine hK7 _ _ ?_
  refine W.cond (decide (at_ ≥ (img.length : Int))) (by kernel_rfl) (fun h21 => ?_) (fun h21 => ?_)
  ·
   have h21p := of_decide_eq_true h21
   refine W.sr fun K22 hK22 => ?_
   refine zE 2 (hK22 _ _ ?_)
   refine W.ret (ret_block (ret_seq ?_))
   exfalso
   omega
  have h21p := of_decide_eq_false h21
  refine W.skip ?_
  refine normal_block ?_
  refine hK2 _ _ ?_
  refine W.sr fun K23 hK23 => ?_
  refine zR 4 ?_
  refine zN [(zp vb), (zi at_), (zi many)] 213 hs19 fun b26 w24 hs25 => ?_
  refine zE 2 (hK23 _ _ ?_)
  refine W.ret ?_
  refine ret_of (.tuple #[(zp b26), (zi 0)]) (by kernel_rfl) ⟨_, ⟨b26, rfl, rfl⟩, hs25⟩
 have h20p := of_decide_eq_false h20
 refine W.region ?_
 refine zR 1 ?_
 have h27 : -9223372036854775808 ≤ (many - 1) ∧ (many - 1) ≤ 9223372036854775807 := by omega
 refine zI _ (wrap_i64 h27.1 h27.2) ?_
 have h28 : 0 ≤ (many - 1) := by omega
 have h29 : -9223372036854775808 ≤ ((many - 1) / 64) ∧ ((many - 1) / 64) ≤ 9223372036854775807 := by omega
 refine ops_R (v := .int .i64 ((many - 1) / 64)) (runs_quo (k := .i64) (a := (many - 1)) (b := 64) (by kernel_rfl) (by decide) ((congrArg IntKind.i64.wrap (Int.tdiv_eq_ediv_of_nonneg h28)).trans (wrap_i64 h29.1 h29.2))) ?_
 refine zR 1 ?_
 refine zC00 hs19 (len_spec (hv := (viewAt_old hs19 hv)) B _) fun w30 hs32 => ?_
 refine zR 1 ?_
 have h33 : -9223372036854775808 ≤ ((img.length : Int) - at_) ∧ ((img.length : Int) - at_) ≤ 9223372036854775807 := by omega
 refine zI _ (wrap_i64 h33.1 h33.2) ?_
 refine zE 2 (hK7 _ _ ?_)
 refine W.cond (decide (((many - 1) / 64) ≥ ((img.length : Int) - at_))) (by kernel_rfl) (fun h34 => ?_) (fun h34 => ?_)
 ·
  have h34p := of_decide_eq_true h34
  refine W.sr fun K35 hK35 => ?_
  refine zE 2 (hK35 _ _ ?_)
  refine W.ret (ret_block (ret_seq ?_))
  exfalso
  omega
 have h34p := of_decide_eq_false h34
 refine W.skip ?_
 refine normal_block ?_
 refine hK2 _ _ ?_
 refine W.sr fun K36 hK36 => ?_
 refine zR 4 ?_
 refine zN [(zp vb), (zi at_), (zi many)] 213 hs32 fun b39 w37 hs38 => ?_
 refine zE 2 (hK36 _ _ ?_)
 refine W.ret ?_
 refine ret_of (.tuple #[(zp b39), (zi 0)]) (by kernel_rfl) ⟨_, ⟨b39, rfl, rfl⟩, hs38⟩
end Go.Proofs.YtmmclabkkigiaaaGreatDoor

set_option maxRecDepth 20000
namespace Go.Proofs.YtmmclabkkigiaaaGreatDoor
open Go Go.RowKit
theorem anew_ok {vb : Nat} {img : List Int} {l : List (Int × Int)} {gw gi gb : Int} (B : Nat) (w : World) (hv : ViewAt (ptr vb) img l w) (hz : (img.length : Int) ≤ 1000000000000) (hP : May gw gi gb ∧ wordsOf gw gi gb ≤ (img.length : Int)) : Spec Tryz.prog 115 #[(zp vb), (.agg #[(zi gw), (zi gi), (zi gb)])] B w [] (fun v H' => ∃ ab ib bb, v = .tuple #[ptr ab, .int .i64 0] ∧ H' = [zb ab 208 [(zp vb), (zi gw), (zi gi), (zi gb), (zp ib), (zi gi), (zp bb), (zi gb)], zb ib 213 [(zp vb), (zi (placeOf 6 gw gi gb 0)), (zi gi)], zb bb 213 [(zp vb), (zi (placeOf 7 gw gi gb 0)), (zi gb)]]) := by
 refine spec_Q Tryz.func115 rfl fun hs => ?_
 have hm : May gw gi gb := hP.1
 have hl := hP.2
 have hm_ : (1 ≤ gw ∧ gw ≤ 4) ∧ (2 ≤ gi ∧ gi ≤ 64) ∧ (2 ≤ gb ∧ gb ≤ 512) := hm
 have hwd := words_may hm
 have hp6 := place6 hm
 have hp7 := place7 hm
 refine W.sr fun K1 hK1 => ?_
 refine zN [(zi gw), (zi gi), (zi gb)] 31 hs fun b4 w2 hs3 => ?_
 refine zE 2 (hK1 _ _ ?_)
 refine W.seq fun K5 hK5 => ?_
 refine W.block ?_
 refine W.sr fun K6 hK6 => ?_
 refine zE 3 (hK6 _ _ ?_)
 refine W.cond_false false (by kernel_rfl) rfl ?_
 refine W.sr fun K7 hK7 => ?_
 refine zG ⟨b4, 0, none⟩ [(zi gw), (zi gi), (zi gb)] (cells_sub (hs3.heapAt 0 rfl) rfl) ?_
 refine zC00 hs3 (may_spec (gw := gw) (gi := gi) (gb := gb) B _) fun w8 hs10 => ?_
 refine zE 2 (hK7 _ _ ?_)
 refine W.cond (!(decide (May gw gi gb))) (by kernel_rfl) (fun h11 => ?_) (fun h11 => ?_)
 ·
  have h11p : ¬ (May gw gi gb) := of_decide_eq_false (bnot_true h11)
  refine W.sr fun K12 hK12 => ?_
  refine zE 2 (hK12 _ _ ?_)
  refine W.ret (ret_block (ret_seq ?_))
  exfalso
  first | omega | (exact absurd hm (by assumption))
 have h11p : May gw gi gb := of_decide_eq_true (bnot_false h11)
 refine W.seq fun K13 hK13 => ?_
 have hs14 := hs10.drew
 refine W.regionD [(0, 0), (1, 1), (0, 0), (6, 4), (10, 10), (24, 16)] (fun w_ => St B w [] w_ [zb b4 31 [(zi gw), (zi gi), (zi gb)]]) (by kernel_rfl) hs14 ?_
 refine zA (zp vb) 0 hs14 ?_
 refine any_R 2 (by kernel_rfl) (fun _ hS_ => runs_loadAgg (ad := ⟨b4, 0, none⟩) (cs := [(zi gw), (zi gi), (zi gb)]) (by kernel_rfl) (cells_sub (hS_.heapAt 0 rfl) rfl)) hs14 ?_
 refine any_step 1 (by kernel_rfl) (by kernel_rfl) ?_
 refine zC00 hs14 (len_spec (hv := (viewAt_old hs14 hv)) B _) fun w15 hs17 => ?_
 refine ops_done (by kernel_rfl) ⟨hs17, ?_⟩
 refine any_step 3 (by kernel_rfl) (by kernel_rfl) ?_
 refine zC00 hs17 (lwords_spec (gw := gw) (gi := gi) (gb := gb) B _) fun w18 hs20 => ?_
 refine ops_done (by kernel_rfl) ⟨hs20, ?_⟩
 refine zA (.bool (decide ((img.length : Int) < (wordsOf gw gi gb)))) 4 hs20 ?_
 refine zA (.bool (decide ((img.length : Int) < (wordsOf gw gi gb)))) 5 hs20 ?_
 refine any_done (by kernel_rfl) ?_
 refine hK13 _ _ ?_
 refine W.cond (decide ((img.length : Int) < (wordsOf gw gi gb))) (by kernel_rfl) (fun h21 => ?_) (fun h21 => ?_)
 ·
  have h21p := of_decide_eq_true h21
  refine W.sr fun K22 hK22 => ?_
  refine zE 2 (hK22 _ _ ?_)
  refine W.ret (ret_block (ret_seq ?_))
  exfalso
  first | omega | (exact absurd hm (by assumption))
 have h21p := of_decide_eq_false h21
 refine W.skip ?_
 refine normal_block ?_
 refine hK5 _ _ ?_
 refine W.seq fun K23 hK23 => ?_
 have hs24 := hs20.drew
 refine W.regionD [(0, 0), (0, 0), (2, 2), (0, 0), (8, 8), (21, 21), (32, 32), (64, 64), (64, 64), (255, 128), (1023, 256)] (fun w_ => St B w [] w_ [zb b4 31 [(zi gw), (zi gi), (zi gb)]]) (by kernel_rfl) hs24 ?_
 refine zA (zp vb) 0 hs24 ?_
 refine any_R 1 (by kernel_rfl) (fun _ hS_ => runs_loadAgg (ad := ⟨b4, 0, none⟩) (cs := [(zi gw), (zi gi), (zi gb)]) (by kernel_rfl) (cells_sub (hS_.heapAt 0 rfl) rfl)) hs24 ?_
 refine zA (.pointer (some ⟨b4, 1, none⟩)) 3 hs24 ?_
 refine zB 4 ⟨b4, 1, none⟩ (zi gi) (fun _ hS_ => (hS_.cellAt 0 rfl rfl)) hs24 ?_
 refine any_step 2 (by kernel_rfl) (by kernel_rfl) ?_
 refine zC00 hs24 (lmap6_spec (gw := gw) (gi := gi) (gb := gb) B _) fun w25 hs27 => ?_
 refine ops_done (by kernel_rfl) ⟨hs27, ?_⟩
 refine any_step 5 (by kernel_rfl) (by kernel_rfl) ?_
 have h28 : (img.length : Int) ≤ 1000000000000 := by first | omega | (exact absurd hm (by assumption))
 have h29 : (0 ≤ ((placeOf 6 gw gi gb 0) : Int) ∧ ((placeOf 6 gw gi gb 0) : Int) < (img.length : Int)) ∧ (1 ≤ (gi : Int) ∧ (gi : Int) ≤ 1000000000000) ∧ ((gi : Int) - 1) / 64 < (img.length : Int) - ((placeOf 6 gw gi gb 0) : Int) := by first | omega | (exact absurd hm (by assumption))
 refine ops_call0 hs27 (by kernel_rfl) (of_ok (hv := (viewAt_old hs27 hv)) (hz := h28) (ho := h29) B _) ?_
 rintro _ _ w31 ⟨b30, rfl, rfl⟩ hs32
 have hs33 := St.ap1 hs32
 have hs34 := St.f1 hs33
 have hs35 := St.tk1 hs34
 refine ops_done (by kernel_rfl) ⟨hs35, ?_⟩
 refine zA (.tuple #[(zp b30), (zi 0)]) 6 hs35 ?_
 refine zA (zp b30) 7 hs35 ?_
 refine zA (zi 0) 8 hs35 ?_
 refine zA (zp b30) 9 hs35 ?_
 refine zA (zi 0) 10 hs35 ?_
 refine any_done (by kernel_rfl) ?_
 refine hK23 _ _ ?_
 refine W.seq fun K36 hK36 => ?_
 refine W.sr fun K37 hK37 => ?_
 refine zE 2 (hK37 _ _ ?_)
 refine W.cond_false false (by kernel_rfl) rfl ?_
 refine W.skip ?_
 refine hK36 _ _ ?_
 refine W.seq fun K38 hK38 => ?_
 have hs39 := hs33.drew
 refine W.regionD [(0, 0), (0, 0), (2, 2), (0, 0), (8, 8), (21, 21), (32, 32), (64, 64), (64, 64), (255, 128), (1023, 256)] (fun w_ => St B w [] w_ [zb b30 213 [(zp vb), (zi (placeOf 6 gw gi gb 0)), (zi gi)], zb b4 31 [(zi gw), (zi gi), (zi gb)]]) (by kernel_rfl) hs39 ?_
 refine zA (zp vb) 0 hs39 ?_
 refine any_R 1 (by kernel_rfl) (fun _ hS_ => runs_loadAgg (ad := ⟨b4, 0, none⟩) (cs := [(zi gw), (zi gi), (zi gb)]) (by kernel_rfl) (cells_sub (hS_.heapAt 1 rfl) rfl)) hs39 ?_
 refine zA (.pointer (some ⟨b4, 2, none⟩)) 3 hs39 ?_
 refine zB 4 ⟨b4, 2, none⟩ (zi gb) (fun _ hS_ => (hS_.cellAt 1 rfl rfl)) hs39 ?_
 refine any_step 2 (by kernel_rfl) (by kernel_rfl) ?_
 refine zC00 hs39 (lmap7_spec (gw := gw) (gi := gi) (gb := gb) B _) fun w40 hs42 => ?_
 refine ops_done (by kernel_rfl) ⟨hs42, ?_⟩
 refine any_step 5 (by kernel_rfl) (by kernel_rfl) ?_
 have h43 : (img.length : Int) ≤ 1000000000000 := by first | omega | (exact absurd hm (by assumption))
 have h44 : (0 ≤ ((placeOf 7 gw gi gb 0) : Int) ∧ ((placeOf 7 gw gi gb 0) : Int) < (img.length : Int)) ∧ (1 ≤ (gb : Int) ∧ (gb : Int) ≤ 1000000000000) ∧ ((gb : Int) - 1) / 64 < (img.length : Int) - ((placeOf 7 gw gi gb 0) : Int) := by first | omega | (exact absurd hm (by assumption))
 refine ops_call0 hs42 (by kernel_rfl) (of_ok (hv := (viewAt_old hs42 hv)) (hz := h43) (ho := h44) B _) ?_
 rintro _ _ w46 ⟨b45, rfl, rfl⟩ hs47
 have hs48 := St.ap1 hs47
 have hs49 := St.f2 hs48
 have hs50 := St.f2 hs49
 have hs51 := St.tk2 hs50
 refine ops_done (by kernel_rfl) ⟨hs51, ?_⟩
 refine zA (.tuple #[(zp b45), (zi 0)]) 6 hs51 ?_
 refine zA (zp b45) 7 hs51 ?_
 refine zA (zi 0) 8 hs51 ?_
 refine zA (zp b45) 9 hs51 ?_
 refine zA (zi 0) 10 hs51 ?_
 refine any_done (by kernel_rfl) ?_
 refine hK38 _ _ ?_
 refine W.seq fun K52 hK52 => ?_
 refine W.sr fun K53 hK53 => ?_
 refine zE 2 (hK53 _ _ ?_)
 refine W.cond_false false (by kernel_rfl) rfl ?_
 refine W.skip ?_
 refine hK52 _ _ ?_
 refine W.sr fun K54 hK54 => ?_
 refine zR 1 ?_
 refine zG ⟨b4, 0, none⟩ [(zi gw), (zi gi), (zi gb)] (cells_sub (hs48.heapAt 2 rfl) rfl) ?_
 refine zR 2 ?_
 refine zL ⟨b4, 1, none⟩ (zi gi) (hs48.cellAt 2 rfl rfl) ?_
 refine zR 3 ?_
 refine zL ⟨b4, 2, none⟩ (zi gb) (hs48.cellAt 2 rfl rfl) ?_
 refine zR 2 ?_
 refine zN [(zp vb), (zi gw), (zi gi), (zi gb), (zp b30), (zi gi), (zp b45), (zi gb)] 208 hs48 fun b57 w55 hs56 => ?_
 refine zE 2 (hK54 _ _ ?_)
 refine W.ret ?_
 have hs58 := St.f1 hs56
 have hs59 := St.f2 hs58
 have hs60 := St.f2 hs59
 have hs61 := St.tk3 hs60
 refine ret_of (.tuple #[(zp b57), (zi 0)]) (by kernel_rfl) ⟨_, ⟨b57, b30, b45, rfl, rfl⟩, hs61⟩
theorem anew_err {vb : Nat} {img : List Int} {l : List (Int × Int)} {gw gi gb : Int} (B : Nat) (w : World) (hv : ViewAt (ptr vb) img l w) (hz : (img.length : Int) ≤ 1000000000000) (hN : ¬ (May gw gi gb ∧ wordsOf gw gi gb ≤ (img.length : Int))) : Spec Tryz.prog 115 #[(zp vb), (.agg #[(zi gw), (zi gi), (zi gb)])] B w [] (fun v H' => v = .tuple #[.pointer none, .int .i64 (if May gw gi gb then 8 else 1)] ∧ H' = []) := by
 refine spec_Q Tryz.func115 rfl fun hs => ?_
 refine W.sr fun K1 hK1 => ?_
 refine zN [(zi gw), (zi gi), (zi gb)] 31 hs fun b4 w2 hs3 => ?_
 refine zE 2 (hK1 _ _ ?_)
 refine W.seq fun K5 hK5 => ?_
 refine W.block ?_
 refine W.sr fun K6 hK6 => ?_
 refine zE 3 (hK6 _ _ ?_)
 refine W.cond_false false (by kernel_rfl) rfl ?_
 refine W.sr fun K7 hK7 => ?_
 refine zG ⟨b4, 0, none⟩ [(zi gw), (zi gi), (zi gb)] (cells_sub (hs3.heapAt 0 rfl) rfl) ?_
 refine zC00 hs3 (may_spec (gw := gw) (gi := gi) (gb := gb) B _) fun w8 hs10 => ?_
 refine zE 2 (hK7 _ _ ?_)
 refine W.cond (!(decide (May gw gi gb))) (by kernel_rfl) (fun h11 => ?_) (fun h11 => ?_)
 ·
  have h11p : ¬ (May gw gi gb) := of_decide_eq_false (bnot_true h11)
  refine W.sr fun K12 hK12 => ?_
  refine zE 2 (hK12 _ _ ?_)
  refine W.ret (ret_block (ret_seq ?_))
  have hs13 := St.tk0 hs10
  refine ret_of (.tuple #[(.pointer none), (zi 1)]) (by kernel_rfl) ⟨_, ⟨congrArg (fun z => Value.tuple #[.pointer none, .int .i64 z]) (if_neg (by assumption)).symm, rfl⟩, hs13⟩
 have h11p : May gw gi gb := of_decide_eq_true (bnot_false h11)
 refine W.seq fun K14 hK14 => ?_
 have hs15 := hs10.drew
 refine W.regionD [(0, 0), (1, 1), (0, 0), (6, 4), (10, 10), (24, 16)] (fun w_ => St B w [] w_ [zb b4 31 [(zi gw), (zi gi), (zi gb)]]) (by kernel_rfl) hs15 ?_
 refine zA (zp vb) 0 hs15 ?_
 refine any_R 2 (by kernel_rfl) (fun _ hS_ => runs_loadAgg (ad := ⟨b4, 0, none⟩) (cs := [(zi gw), (zi gi), (zi gb)]) (by kernel_rfl) (cells_sub (hS_.heapAt 0 rfl) rfl)) hs15 ?_
 refine any_step 1 (by kernel_rfl) (by kernel_rfl) ?_
 refine zC00 hs15 (len_spec (hv := (viewAt_old hs15 hv)) B _) fun w16 hs18 => ?_
 refine ops_done (by kernel_rfl) ⟨hs18, ?_⟩
 refine any_step 3 (by kernel_rfl) (by kernel_rfl) ?_
 refine zC00 hs18 (lwords_spec (gw := gw) (gi := gi) (gb := gb) B _) fun w19 hs21 => ?_
 refine ops_done (by kernel_rfl) ⟨hs21, ?_⟩
 refine zA (.bool (decide ((img.length : Int) < (wordsOf gw gi gb)))) 4 hs21 ?_
 refine zA (.bool (decide ((img.length : Int) < (wordsOf gw gi gb)))) 5 hs21 ?_
 refine any_done (by kernel_rfl) ?_
 refine hK14 _ _ ?_
 refine W.cond (decide ((img.length : Int) < (wordsOf gw gi gb))) (by kernel_rfl) (fun h22 => ?_) (fun h22 => ?_)
 ·
  have h22p := of_decide_eq_true h22
  refine W.sr fun K23 hK23 => ?_
  refine zE 2 (hK23 _ _ ?_)
  refine W.ret (ret_block (ret_seq ?_))
  have hs24 := St.tk0 hs21
  refine ret_of (.tuple #[(.pointer none), (zi 8)]) (by kernel_rfl) ⟨_, ⟨congrArg (fun z => Value.tuple #[.pointer none, .int .i64 z]) (if_pos (by assumption)).symm, rfl⟩, hs24⟩
 have h22p := of_decide_eq_false h22
 refine W.skip ?_
 refine normal_block ?_
 refine hK5 _ _ ?_
 refine W.seq fun K25 hK25 => ?_
 have hs26 := hs21.drew
 refine W.regionD [(0, 0), (0, 0), (2, 2), (0, 0), (8, 8), (21, 21), (32, 32), (64, 64), (64, 64), (255, 128), (1023, 256)] (fun w_ => St B w [] w_ [zb b4 31 [(zi gw), (zi gi), (zi gb)]]) (by kernel_rfl) hs26 ?_
 refine zA (zp vb) 0 hs26 ?_
 refine any_R 1 (by kernel_rfl) (fun _ hS_ => runs_loadAgg (ad := ⟨b4, 0, none⟩) (cs := [(zi gw), (zi gi), (zi gb)]) (by kernel_rfl) (cells_sub (hS_.heapAt 0 rfl) rfl)) hs26 ?_
 refine zA (.pointer (some ⟨b4, 1, none⟩)) 3 hs26 ?_
 refine zB 4 ⟨b4, 1, none⟩ (zi gi) (fun _ hS_ => (hS_.cellAt 0 rfl rfl)) hs26 ?_
 refine any_step 2 (by kernel_rfl) (by kernel_rfl) ?_
 refine zC00 hs26 (lmap6_spec (gw := gw) (gi := gi) (gb := gb) B _) fun w27 hs29 => ?_
 refine ops_done (by kernel_rfl) ⟨hs29, ?_⟩
 refine any_step 5 (by kernel_rfl) (by kernel_rfl) ?_
 have h30 : (img.length : Int) ≤ 1000000000000 := by first | omega | (exact absurd ⟨by assumption, by omega⟩ hN)
 have h31 : (0 ≤ ((placeOf 6 gw gi gb 0) : Int) ∧ ((placeOf 6 gw gi gb 0) : Int) < (img.length : Int)) ∧ (1 ≤ (gi : Int) ∧ (gi : Int) ≤ 1000000000000) ∧ ((gi : Int) - 1) / 64 < (img.length : Int) - ((placeOf 6 gw gi gb 0) : Int) := by first | omega | (exact absurd ⟨by assumption, by omega⟩ hN)
 refine ops_call0 hs29 (by kernel_rfl) (of_ok (hv := (viewAt_old hs29 hv)) (hz := h30) (ho := h31) B _) ?_
 rintro _ _ w33 ⟨b32, rfl, rfl⟩ hs34
 have hs35 := St.ap1 hs34
 have hs36 := St.f1 hs35
 have hs37 := St.tk1 hs36
 refine ops_done (by kernel_rfl) ⟨hs37, ?_⟩
 refine zA (.tuple #[(zp b32), (zi 0)]) 6 hs37 ?_
 refine zA (zp b32) 7 hs37 ?_
 refine zA (zi 0) 8 hs37 ?_
 refine zA (zp b32) 9 hs37 ?_
 refine zA (zi 0) 10 hs37 ?_
 refine any_done (by kernel_rfl) ?_
 refine hK25 _ _ ?_
 refine W.seq fun K38 hK38 => ?_
 refine W.sr fun K39 hK39 => ?_
 refine zE 2 (hK39 _ _ ?_)
 refine W.cond_false false (by kernel_rfl) rfl ?_
 refine W.skip ?_
 refine hK38 _ _ ?_
 refine W.seq fun K40 hK40 => ?_
 have hs41 := hs35.drew
 refine W.regionD [(0, 0), (0, 0), (2, 2), (0, 0), (8, 8), (21, 21), (32, 32), (64, 64), (64, 64), (255, 128), (1023, 256)] (fun w_ => St B w [] w_ [zb b32 213 [(zp vb), (zi (placeOf 6 gw gi gb 0)), (zi gi)], zb b4 31 [(zi gw), (zi gi), (zi gb)]]) (by kernel_rfl) hs41 ?_
 refine zA (zp vb) 0 hs41 ?_
 refine any_R 1 (by kernel_rfl) (fun _ hS_ => runs_loadAgg (ad := ⟨b4, 0, none⟩) (cs := [(zi gw), (zi gi), (zi gb)]) (by kernel_rfl) (cells_sub (hS_.heapAt 1 rfl) rfl)) hs41 ?_
 refine zA (.pointer (some ⟨b4, 2, none⟩)) 3 hs41 ?_
 refine zB 4 ⟨b4, 2, none⟩ (zi gb) (fun _ hS_ => (hS_.cellAt 1 rfl rfl)) hs41 ?_
 refine any_step 2 (by kernel_rfl) (by kernel_rfl) ?_
 refine zC00 hs41 (lmap7_spec (gw := gw) (gi := gi) (gb := gb) B _) fun w42 hs44 => ?_
 refine ops_done (by kernel_rfl) ⟨hs44, ?_⟩
 refine any_step 5 (by kernel_rfl) (by kernel_rfl) ?_
 have h45 : (img.length : Int) ≤ 1000000000000 := by first | omega | (exact absurd ⟨by assumption, by omega⟩ hN)
 have h46 : (0 ≤ ((placeOf 7 gw gi gb 0) : Int) ∧ ((placeOf 7 gw gi gb 0) : Int) < (img.length : Int)) ∧ (1 ≤ (gb : Int) ∧ (gb : Int) ≤ 1000000000000) ∧ ((gb : Int) - 1) / 64 < (img.length : Int) - ((placeOf 7 gw gi gb 0) : Int) := by first | omega | (exact absurd ⟨by assumption, by omega⟩ hN)
 refine ops_call0 hs44 (by kernel_rfl) (of_ok (hv := (viewAt_old hs44 hv)) (hz := h45) (ho := h46) B _) ?_
 rintro _ _ w48 ⟨b47, rfl, rfl⟩ hs49
 have hs50 := St.ap1 hs49
 have hs51 := St.f2 hs50
 have hs52 := St.f2 hs51
 have hs53 := St.tk2 hs52
 refine ops_done (by kernel_rfl) ⟨hs53, ?_⟩
 refine zA (.tuple #[(zp b47), (zi 0)]) 6 hs53 ?_
 refine zA (zp b47) 7 hs53 ?_
 refine zA (zi 0) 8 hs53 ?_
 refine zA (zp b47) 9 hs53 ?_
 refine zA (zi 0) 10 hs53 ?_
 refine any_done (by kernel_rfl) ?_
 refine hK40 _ _ ?_
 refine W.seq fun K54 hK54 => ?_
 refine W.sr fun K55 hK55 => ?_
 refine zE 2 (hK55 _ _ ?_)
 refine W.cond_false false (by kernel_rfl) rfl ?_
 refine W.skip ?_
 refine hK54 _ _ ?_
 refine W.sr fun K56 hK56 => ?_
 refine zR 1 ?_
 refine zG ⟨b4, 0, none⟩ [(zi gw), (zi gi), (zi gb)] (cells_sub (hs50.heapAt 2 rfl) rfl) ?_
 refine zR 2 ?_
 refine zL ⟨b4, 1, none⟩ (zi gi) (hs50.cellAt 2 rfl rfl) ?_
 refine zR 3 ?_
 refine zL ⟨b4, 2, none⟩ (zi gb) (hs50.cellAt 2 rfl rfl) ?_
 refine zR 2 ?_
 refine zN [(zp vb), (zi gw), (zi gi), (zi gb), (zp b32), (zi gi), (zp b47), (zi gb)] 208 hs50 fun b59 w57 hs58 => ?_
 refine zE 2 (hK56 _ _ ?_)
 refine W.ret ?_
 exfalso
 first | omega | (exact hN ⟨by assumption, by omega⟩)
theorem rnew_ok {p : Value} {img : List Int} {l : List (Int × Int)} {gw gi gb : Int} (B : Nat) (w : World) (hv : RefAt p img l w) (hz : (img.length : Int) ≤ 1000000000000) (hP : May gw gi gb ∧ wordsOf gw gi gb ≤ (img.length : Int)) : Spec Tryz.prog 66 #[p, (.agg #[(zi gw), (zi gi), (zi gb)])] B w [] (fun v H' => ∃ ab ib bb, v = .tuple #[ptr ab, .int .i64 0] ∧ H' = [zb ab 177 [p, (zi gw), (zi gi), (zi gb), (zp ib), (zp bb)], zb ib 175 [p, (zi (placeOf 6 gw gi gb 0)), (zi gi)], zb bb 175 [p, (zi (placeOf 7 gw gi gb 0)), (zi gb)]]) := by
 refine spec_Q Tryz.func66 rfl fun hs => ?_
 have hv0 := hv
 obtain ⟨x, rfl, hok, hb, hi, ho, hcap⟩ := hv
 have hroom := hok.many
 have hroom2 := hok.size
 have hm : May gw gi gb := hP.1
 have hl := hP.2
 have hm_ : (1 ≤ gw ∧ gw ≤ 4) ∧ (2 ≤ gi ∧ gi ≤ 64) ∧ (2 ≤ gb ∧ gb ≤ 512) := hm
 have hwd := words_may hm
 have hp6 := place6 hm
 have hp7 := place7 hm
 refine W.sr fun K1 hK1 => ?_
 refine zN [(zi gw), (zi gi), (zi gb)] 42 hs fun b4 w2 hs3 => ?_
 refine zE 2 (hK1 _ _ ?_)
 refine W.seq fun K5 hK5 => ?_
 refine W.sr fun K6 hK6 => ?_
 refine zG ⟨b4, 0, none⟩ [(zi gw), (zi gi), (zi gb)] (cells_sub (hs3.heapAt 0 rfl) rfl) ?_
 refine zC00 hs3 (rmay_spec (gw := gw) (gi := gi) (gb := gb) B _) fun w7 hs9 => ?_
 refine zE 1 (hK6 _ _ ?_)
 refine W.cond (!(decide (May gw gi gb))) (by kernel_rfl) (fun h10 => ?_) (fun h10 => ?_)
 ·
  have h10p : ¬ (May gw gi gb) := of_decide_eq_false (bnot_true h10)
  refine W.sr fun K11 hK11 => ?_
  refine zE 2 (hK11 _ _ ?_)
  refine W.ret (ret_seq ?_)
  exfalso
  first | omega | (exact absurd hm (by assumption))
 have h10p : May gw gi gb := of_decide_eq_true (bnot_false h10)
 refine W.skip ?_
 refine hK5 _ _ ?_
 refine W.seq fun K12 hK12 => ?_
 refine W.seq fun K13 hK13 => ?_
 have hs14 := hs9.drew
 refine W.regionD [(0, 0), (1, 1), (2, 2), (4, 4), (8, 8), (0, 0), (32, 32), (80, 80)] (fun w_ => St B w [] w_ [zb b4 42 [(zi gw), (zi gi), (zi gb)]]) (by kernel_rfl) hs14 ?_
 refine zA (zp x.b) 0 hs14 ?_
 refine zA (zp x.b) 1 hs14 ?_
 refine zA (zp x.b) 2 hs14 ?_
 refine zB 3 ⟨x.b, 0, none⟩ (.slice x.ia img.length x.ic) (fun _ hS_ => (cell_of_blk (hS_.old hb) rfl)) hs14 ?_
 refine zA (zi (img.length : Int)) 4 hs14 ?_
 refine any_R 5 (by kernel_rfl) (fun _ hS_ => runs_loadAgg (ad := ⟨b4, 0, none⟩) (cs := [(zi gw), (zi gi), (zi gb)]) (by kernel_rfl) (cells_sub (hS_.heapAt 0 rfl) rfl)) hs14 ?_
 refine any_step 6 (by kernel_rfl) (by kernel_rfl) ?_
 refine zC00 hs14 (rwords_spec (gw := gw) (gi := gi) (gb := gb) B _) fun w15 hs17 => ?_
 refine ops_done (by kernel_rfl) ⟨hs17, ?_⟩
 refine zA (.bool (decide ((img.length : Int) < (wordsOf gw gi gb)))) 7 hs17 ?_
 refine any_done (by kernel_rfl) ?_
 refine hK13 _ _ ?_
 refine W.cond (decide ((img.length : Int) < (wordsOf gw gi gb))) (by kernel_rfl) (fun h18 => ?_) (fun h18 => ?_)
 ·
  have h18p := of_decide_eq_true h18
  refine W.sr fun K19 hK19 => ?_
  refine zE 2 (hK19 _ _ ?_)
  refine W.ret (ret_seq ?_)
  exfalso
  first | omega | (exact absurd hm (by assumption))
 have h18p := of_decide_eq_false h18
 refine W.skip ?_
 refine hK12 _ _ ?_
 refine W.seq fun K20 hK20 => ?_
 have hs21 := hs17.drew
 refine W.regionD [(0, 0), (0, 0), (0, 0), (0, 0), (8, 8), (0, 0), (32, 32), (84, 84), (128, 128), (0, 0), (0, 0), (1040, 1024), (0, 0), (4096, 4096), (10752, 10752), (16384, 16384), (33027, 33027), (65536, 65536), (262143, 131072), (524287, 0)] (fun w_ => St B w [] w_ [zb b4 42 [(zi gw), (zi gi), (zi gb)]]) (by kernel_rfl) hs21 ?_
 refine zA (zp x.b) 0 hs21 ?_
 refine any_R 1 (by kernel_rfl) (fun _ hS_ => runs_loadAgg (ad := ⟨b4, 0, none⟩) (cs := [(zi gw), (zi gi), (zi gb)]) (by kernel_rfl) (cells_sub (hS_.heapAt 0 rfl) rfl)) hs21 ?_
 refine zA (zp x.b) 2 hs21 ?_
 refine any_R 3 (by kernel_rfl) (fun _ hS_ => runs_loadAgg (ad := ⟨b4, 0, none⟩) (cs := [(zi gw), (zi gi), (zi gb)]) (by kernel_rfl) (cells_sub (hS_.heapAt 0 rfl) rfl)) hs21 ?_
 refine zA (.pointer (some ⟨b4, 1, none⟩)) 5 hs21 ?_
 refine zB 6 ⟨b4, 1, none⟩ (zi gi) (fun _ hS_ => (hS_.cellAt 0 rfl rfl)) hs21 ?_
 refine zA (zp x.b) 9 hs21 ?_
 refine any_R 10 (by kernel_rfl) (fun _ hS_ => runs_loadAgg (ad := ⟨b4, 0, none⟩) (cs := [(zi gw), (zi gi), (zi gb)]) (by kernel_rfl) (cells_sub (hS_.heapAt 0 rfl) rfl)) hs21 ?_
 refine zA (.pointer (some ⟨b4, 2, none⟩)) 12 hs21 ?_
 refine zB 13 ⟨b4, 2, none⟩ (zi gb) (fun _ hS_ => (hS_.cellAt 0 rfl rfl)) hs21 ?_
 refine any_step 4 (by kernel_rfl) (by kernel_rfl) ?_
 refine zC00 hs21 (rmapat_spec (gw := gw) (gi := gi) (gb := gb) B _) fun w22 hs24 => ?_
 refine ops_done (by kernel_rfl) ⟨hs24, ?_⟩
 refine zA (.agg #[(zp x.b), (zi (placeOf 6 gw gi gb 0)), (zi gi)]) 7 hs24 ?_
 refine any_step2 8 11 (by kernel_rfl) (by kernel_rfl) (by kernel_rfl) ?_ ?_
 ·
  refine zN [(zp x.b), (zi (placeOf 6 gw gi gb 0)), (zi gi)] 175 hs24 fun b27 w25 hs26 => ?_
  have hs28 := St.f1 hs26
  have hs29 := St.tk1 hs28
  refine ops_done (by kernel_rfl) ⟨hs29, ?_⟩
  refine any_step 11 (by kernel_rfl) (by kernel_rfl) ?_
  refine zC00 hs26 (rbmapat_spec (gw := gw) (gi := gi) (gb := gb) B _) fun w30 hs32 => ?_
  have hs33 := St.f1 hs32
  have hs34 := St.tk1 hs33
  refine ops_done (by kernel_rfl) ⟨hs34, ?_⟩
  refine zA (.agg #[(zp x.b), (zi (placeOf 7 gw gi gb 0)), (zi gb)]) 14 hs34 ?_
  refine any_step 15 (by kernel_rfl) (by kernel_rfl) ?_
  refine zN [(zp x.b), (zi (placeOf 7 gw gi gb 0)), (zi gb)] 175 hs32 fun b37 w35 hs36 => ?_
  have hs38 := St.f2 hs36
  have hs39 := St.tk1 hs38
  refine ops_done (by kernel_rfl) ⟨hs39, ?_⟩
  refine zA (.agg #[(zp x.b), (zi gw), (zi gi), (zi gb), (zp b27), (zp b37)]) 16 hs39 ?_
  refine any_step 17 (by kernel_rfl) (by kernel_rfl) ?_
  refine zN [(zp x.b), (zi gw), (zi gi), (zi gb), (zp b27), (zp b37)] 177 hs36 fun b42 w40 hs41 => ?_
  have hs43 := St.f3 hs41
  have hs44 := St.tk1 hs43
  refine ops_done (by kernel_rfl) ⟨hs44, ?_⟩
  refine zA (zp b42) 18 hs44 ?_
  refine zA (zi 0) 19 hs44 ?_
  refine any_done (by kernel_rfl) ?_
  refine hK20 _ _ ?_
  refine W.ret ?_
  have hs45 := St.f1 hs41
  have hs46 := St.f2 hs45
  have hs47 := St.f2 hs46
  have hs48 := St.tk3 hs47
  refine ret_of (.tuple #[(zp b42), (zi 0)]) (by kernel_rfl) ⟨_, ⟨b42, b27, b37, rfl, rfl⟩, hs48⟩
 refine zC00 hs24 (rbmapat_spec (gw := gw) (gi := gi) (gb := gb) B _) fun w49 hs51 => ?_
 refine ops_done (by kernel_rfl) ⟨hs51, ?_⟩
 refine zA (.agg #[(zp x.b), (zi (placeOf 7 gw gi gb 0)), (zi gb)]) 14 hs51 ?_
 refine any_step2 8 15 (by kernel_rfl) (by kernel_rfl) (by kernel_rfl) ?_ ?_
 ·
  refine zN [(zp x.b), (zi (placeOf 6 gw gi gb 0)), (zi gi)] 175 hs51 fun b54 w52 hs53 => ?_
  have hs55 := St.f1 hs53
  have hs56 := St.tk1 hs55
  refine ops_done (by kernel_rfl) ⟨hs56, ?_⟩
  refine any_step 15 (by kernel_rfl) (by kernel_rfl) ?_
  refine zN [(zp x.b), (zi (placeOf 7 gw gi gb 0)), (zi gb)] 175 hs53 fun b59 w57 hs58 => ?_
  have hs60 := St.f2 hs58
  have hs61 := St.tk1 hs60
  refine ops_done (by kernel_rfl) ⟨hs61, ?_⟩
  refine zA (.agg #[(zp x.b), (zi gw), (zi gi), (zi gb), (zp b54), (zp b59)]) 16 hs61 ?_
  refine any_step 17 (by kernel_rfl) (by kernel_rfl) ?_
  refine zN [(zp x.b), (zi gw), (zi gi), (zi gb), (zp b54), (zp b59)] 177 hs58 fun b64 w62 hs63 => ?_
  have hs65 := St.f3 hs63
  have hs66 := St.tk1 hs65
  refine ops_done (by kernel_rfl) ⟨hs66, ?_⟩
  refine zA (zp b64) 18 hs66 ?_
  refine zA (zi 0) 19 hs66 ?_
  refine any_done (by kernel_rfl) ?_
  refine hK20 _ _ ?_
  refine W.ret ?_
  have hs67 := St.f1 hs63
  have hs68 := St.f2 hs67
  have hs69 := St.f2 hs68
  have hs70 := St.tk3 hs69
  refine ret_of (.tuple #[(zp b64), (zi 0)]) (by kernel_rfl) ⟨_, ⟨b64, b54, b59, rfl, rfl⟩, hs70⟩
 refine zN [(zp x.b), (zi (placeOf 7 gw gi gb 0)), (zi gb)] 175 hs51 fun b73 w71 hs72 => ?_
 have hs74 := St.f1 hs72
 have hs75 := St.tk1 hs74
 refine ops_done (by kernel_rfl) ⟨hs75, ?_⟩
 refine any_step 8 (by kernel_rfl) (by kernel_rfl) ?_
 refine zN [(zp x.b), (zi (placeOf 6 gw gi gb 0)), (zi gi)] 175 hs72 fun b78 w76 hs77 => ?_
 have hs79 := St.f2 hs77
 have hs80 := St.tk1 hs79
 refine ops_done (by kernel_rfl) ⟨hs80, ?_⟩
 refine zA (.agg #[(zp x.b), (zi gw), (zi gi), (zi gb), (zp b78), (zp b73)]) 16 hs80 ?_
 refine any_step 17 (by kernel_rfl) (by kernel_rfl) ?_
 refine zN [(zp x.b), (zi gw), (zi gi), (zi gb), (zp b78), (zp b73)] 177 hs77 fun b83 w81 hs82 => ?_
 have hs84 := St.f3 hs82
 have hs85 := St.tk1 hs84
 refine ops_done (by kernel_rfl) ⟨hs85, ?_⟩
 refine zA (zp b83) 18 hs85 ?_
 refine zA (zi 0) 19 hs85 ?_
 refine any_done (by kernel_rfl) ?_
 refine hK20 _ _ ?_
 refine W.ret ?_
 have hs86 := St.f2 hs82
 have hs87 := St.f2 hs86
 have hs88 := St.f2 hs87
 have hs89 := St.tk3 hs88
 refine ret_of (.tuple #[(zp b83), (zi 0)]) (by kernel_rfl) ⟨_, ⟨b83, b78, b73, rfl, rfl⟩, hs89⟩
theorem rnew_err {p : Value} {img : List Int} {l : List (Int × Int)} {gw gi gb : Int} (B : Nat) (w : World) (hv : RefAt p img l w) (hz : (img.length : Int) ≤ 1000000000000) (hN : ¬ (May gw gi gb ∧ wordsOf gw gi gb ≤ (img.length : Int))) : Spec Tryz.prog 66 #[p, (.agg #[(zi gw), (zi gi), (zi gb)])] B w [] (fun v H' => v = .tuple #[.pointer none, .int .i64 (if May gw gi gb then 8 else 1)] ∧ H' = []) := by
 refine spec_Q Tryz.func66 rfl fun hs => ?_
 have hv0 := hv
 obtain ⟨x, rfl, hok, hb, hi, ho, hcap⟩ := hv
 have hroom := hok.many
 have hroom2 := hok.size
 refine W.sr fun K1 hK1 => ?_
 refine zN [(zi gw), (zi gi), (zi gb)] 42 hs fun b4 w2 hs3 => ?_
 refine zE 2 (hK1 _ _ ?_)
 refine W.seq fun K5 hK5 => ?_
 refine W.sr fun K6 hK6 => ?_
 refine zG ⟨b4, 0, none⟩ [(zi gw), (zi gi), (zi gb)] (cells_sub (hs3.heapAt 0 rfl) rfl) ?_
 refine zC00 hs3 (rmay_spec (gw := gw) (gi := gi) (gb := gb) B _) fun w7 hs9 => ?_
 refine zE 1 (hK6 _ _ ?_)
 refine W.cond (!(decide (May gw gi gb))) (by kernel_rfl) (fun h10 => ?_) (fun h10 => ?_)
 ·
  have h10p : ¬ (May gw gi gb) := of_decide_eq_false (bnot_true h10)
  refine W.sr fun K11 hK11 => ?_
  refine zE 2 (hK11 _ _ ?_)
  refine W.ret (ret_seq ?_)
  have hs12 := St.tk0 hs9
  refine ret_of (.tuple #[(.pointer none), (zi 1)]) (by kernel_rfl) ⟨_, ⟨congrArg (fun z => Value.tuple #[.pointer none, .int .i64 z]) (if_neg (by assumption)).symm, rfl⟩, hs12⟩
 have h10p : May gw gi gb := of_decide_eq_true (bnot_false h10)
 refine W.skip ?_
 refine hK5 _ _ ?_
 refine W.seq fun K13 hK13 => ?_
 refine W.seq fun K14 hK14 => ?_
 have hs15 := hs9.drew
 refine W.regionD [(0, 0), (1, 1), (2, 2), (4, 4), (8, 8), (0, 0), (32, 32), (80, 80)] (fun w_ => St B w [] w_ [zb b4 42 [(zi gw), (zi gi), (zi gb)]]) (by kernel_rfl) hs15 ?_
 refine zA (zp x.b) 0 hs15 ?_
 refine zA (zp x.b) 1 hs15 ?_
 refine zA (zp x.b) 2 hs15 ?_
 refine zB 3 ⟨x.b, 0, none⟩ (.slice x.ia img.length x.ic) (fun _ hS_ => (cell_of_blk (hS_.old hb) rfl)) hs15 ?_
 refine zA (zi (img.length : Int)) 4 hs15 ?_
 refine any_R 5 (by kernel_rfl) (fun _ hS_ => runs_loadAgg (ad := ⟨b4, 0, none⟩) (cs := [(zi gw), (zi gi), (zi gb)]) (by kernel_rfl) (cells_sub (hS_.heapAt 0 rfl) rfl)) hs15 ?_
 refine any_step 6 (by kernel_rfl) (by kernel_rfl) ?_
 refine zC00 hs15 (rwords_spec (gw := gw) (gi := gi) (gb := gb) B _) fun w16 hs18 => ?_
 refine ops_done (by kernel_rfl) ⟨hs18, ?_⟩
 refine zA (.bool (decide ((img.length : Int) < (wordsOf gw gi gb)))) 7 hs18 ?_
 refine any_done (by kernel_rfl) ?_
 refine hK14 _ _ ?_
 refine W.cond (decide ((img.length : Int) < (wordsOf gw gi gb))) (by kernel_rfl) (fun h19 => ?_) (fun h19 => ?_)
 ·
  have h19p := of_decide_eq_true h19
  refine W.sr fun K20 hK20 => ?_
  refine zE 2 (hK20 _ _ ?_)
  refine W.ret (ret_seq ?_)
  have hs21 := St.tk0 hs18
  refine ret_of (.tuple #[(.pointer none), (zi 8)]) (by kernel_rfl) ⟨_, ⟨congrArg (fun z => Value.tuple #[.pointer none, .int .i64 z]) (if_pos (by assumption)).symm, rfl⟩, hs21⟩
 have h19p := of_decide_eq_false h19
 refine W.skip ?_
 refine hK13 _ _ ?_
 refine W.seq fun K22 hK22 => ?_
 have hs23 := hs18.drew
 refine W.regionD [(0, 0), (0, 0), (0, 0), (0, 0), (8, 8), (0, 0), (32, 32), (84, 84), (128, 128), (0, 0), (0, 0), (1040, 1024), (0, 0), (4096, 4096), (10752, 10752), (16384, 16384), (33027, 33027), (65536, 65536), (262143, 131072), (524287, 0)] (fun w_ => St B w [] w_ [zb b4 42 [(zi gw), (zi gi), (zi gb)]]) (by kernel_rfl) hs23 ?_
 refine zA (zp x.b) 0 hs23 ?_
 refine any_R 1 (by kernel_rfl) (fun _ hS_ => runs_loadAgg (ad := ⟨b4, 0, none⟩) (cs := [(zi gw), (zi gi), (zi gb)]) (by kernel_rfl) (cells_sub (hS_.heapAt 0 rfl) rfl)) hs23 ?_
 refine zA (zp x.b) 2 hs23 ?_
 refine any_R 3 (by kernel_rfl) (fun _ hS_ => runs_loadAgg (ad := ⟨b4, 0, none⟩) (cs := [(zi gw), (zi gi), (zi gb)]) (by kernel_rfl) (cells_sub (hS_.heapAt 0 rfl) rfl)) hs23 ?_
 refine zA (.pointer (some ⟨b4, 1, none⟩)) 5 hs23 ?_
 refine zB 6 ⟨b4, 1, none⟩ (zi gi) (fun _ hS_ => (hS_.cellAt 0 rfl rfl)) hs23 ?_
 refine zA (zp x.b) 9 hs23 ?_
 refine any_R 10 (by kernel_rfl) (fun _ hS_ => runs_loadAgg (ad := ⟨b4, 0, none⟩) (cs := [(zi gw), (zi gi), (zi gb)]) (by kernel_rfl) (cells_sub (hS_.heapAt 0 rfl) rfl)) hs23 ?_
 refine zA (.pointer (some ⟨b4, 2, none⟩)) 12 hs23 ?_
 refine zB 13 ⟨b4, 2, none⟩ (zi gb) (fun _ hS_ => (hS_.cellAt 0 rfl rfl)) hs23 ?_
 refine any_step 4 (by kernel_rfl) (by kernel_rfl) ?_
 refine zC00 hs23 (rmapat_spec (gw := gw) (gi := gi) (gb := gb) B _) fun w24 hs26 => ?_
 refine ops_done (by kernel_rfl) ⟨hs26, ?_⟩
 refine zA (.agg #[(zp x.b), (zi (placeOf 6 gw gi gb 0)), (zi gi)]) 7 hs26 ?_
 refine any_step2 8 11 (by kernel_rfl) (by kernel_rfl) (by kernel_rfl) ?_ ?_
 ·
  refine zN [(zp x.b), (zi (placeOf 6 gw gi gb 0)), (zi gi)] 175 hs26 fun b29 w27 hs28 => ?_
  have hs30 := St.f1 hs28
  have hs31 := St.tk1 hs30
  refine ops_done (by kernel_rfl) ⟨hs31, ?_⟩
  refine any_step 11 (by kernel_rfl) (by kernel_rfl) ?_
  refine zC00 hs28 (rbmapat_spec (gw := gw) (gi := gi) (gb := gb) B _) fun w32 hs34 => ?_
  have hs35 := St.f1 hs34
  have hs36 := St.tk1 hs35
  refine ops_done (by kernel_rfl) ⟨hs36, ?_⟩
  refine zA (.agg #[(zp x.b), (zi (placeOf 7 gw gi gb 0)), (zi gb)]) 14 hs36 ?_
  refine any_step 15 (by kernel_rfl) (by kernel_rfl) ?_
  refine zN [(zp x.b), (zi (placeOf 7 gw gi gb 0)), (zi gb)] 175 hs34 fun b39 w37 hs38 => ?_
  have hs40 := St.f2 hs38
  have hs41 := St.tk1 hs40
  refine ops_done (by kernel_rfl) ⟨hs41, ?_⟩
  refine zA (.agg #[(zp x.b), (zi gw), (zi gi), (zi gb), (zp b29), (zp b39)]) 16 hs41 ?_
  refine any_step 17 (by kernel_rfl) (by kernel_rfl) ?_
  refine zN [(zp x.b), (zi gw), (zi gi), (zi gb), (zp b29), (zp b39)] 177 hs38 fun b44 w42 hs43 => ?_
  have hs45 := St.f3 hs43
  have hs46 := St.tk1 hs45
  refine ops_done (by kernel_rfl) ⟨hs46, ?_⟩
  refine zA (zp b44) 18 hs46 ?_
  refine zA (zi 0) 19 hs46 ?_
  refine any_done (by kernel_rfl) ?_
  refine hK22 _ _ ?_
  refine W.ret ?_
  exfalso
  first | omega | (exact hN ⟨by assumption, by omega⟩)
 refine zC00 hs26 (rbmapat_spec (gw := gw) (gi := gi) (gb := gb) B _) fun w47 hs49 => ?_
 refine ops_done (by kernel_rfl) ⟨hs49, ?_⟩
 refine zA (.agg #[(zp x.b), (zi (placeOf 7 gw gi gb 0)), (zi gb)]) 14 hs49 ?_
 refine any_step2 8 15 (by kernel_rfl) (by kernel_rfl) (by kernel_rfl) ?_ ?_
 ·
  refine zN [(zp x.b), (zi (placeOf 6 gw gi gb 0)), (zi gi)] 175 hs49 fun b52 w50 hs51 => ?_
  have hs53 := St.f1 hs51
  have hs54 := St.tk1 hs53
  refine ops_done (by kernel_rfl) ⟨hs54, ?_⟩
  refine any_step 15 (by kernel_rfl) (by kernel_rfl) ?_
  refine zN [(zp x.b), (zi (placeOf 7 gw gi gb 0)), (zi gb)] 175 hs51 fun b57 w55 hs56 => ?_
  have hs58 := St.f2 hs56
  have hs59 := St.tk1 hs58
  refine ops_done (by kernel_rfl) ⟨hs59, ?_⟩
  refine zA (.agg #[(zp x.b), (zi gw), (zi gi), (zi gb), (zp b52), (zp b57)]) 16 hs59 ?_
  refine any_step 17 (by kernel_rfl) (by kernel_rfl) ?_
  refine zN [(zp x.b), (zi gw), (zi gi), (zi gb), (zp b52), (zp b57)] 177 hs56 fun b62 w60 hs61 => ?_
  have hs63 := St.f3 hs61
  have hs64 := St.tk1 hs63
  refine ops_done (by kernel_rfl) ⟨hs64, ?_⟩
  refine zA (zp b62) 18 hs64 ?_
  refine zA (zi 0) 19 hs64 ?_
  refine any_done (by kernel_rfl) ?_
  refine hK22 _ _ ?_
  refine W.ret ?_
  exfalso
  first | omega | (exact hN ⟨by assumption, by omega⟩)
 refine zN [(zp x.b), (zi (placeOf 7 gw gi gb 0)), (zi gb)] 175 hs49 fun b67 w65 hs66 => ?_
 have hs68 := St.f1 hs66
 have hs69 := St.tk1 hs68
 refine ops_done (by kernel_rfl) ⟨hs69, ?_⟩
 refine any_step 8 (by kernel_rfl) (by kernel_rfl) ?_
 refine zN [(zp x.b), (zi (placeOf 6 gw gi gb 0)), (zi gi)] 175 hs66 fun b72 w70 hs71 => ?_
 have hs73 := St.f2 hs71
 have hs74 := St.tk1 hs73
 refine ops_done (by kernel_rfl) ⟨hs74, ?_⟩
 refine zA (.agg #[(zp x.b), (zi gw), (zi gi), (zi gb), (zp b72), (zp b67)]) 16 hs74 ?_
 refine any_step 17 (by kernel_rfl) (by kernel_rfl) ?_
 refine zN [(zp x.b), (zi gw), (zi gi), (zi gb), (zp b72), (zp b67)] 177 hs71 fun b77 w75 hs76 => ?_
 have hs78 := St.f3 hs76
 have hs79 := St.tk1 hs78
 refine ops_done (by kernel_rfl) ⟨hs79, ?_⟩
 refine zA (zp b77) 18 hs79 ?_
 refine zA (zi 0) 19 hs79 ?_
 refine any_done (by kernel_rfl) ?_
 refine hK22 _ _ ?_
 refine W.ret ?_
 exfalso
 first | omega | (exact hN ⟨by assumption, by omega⟩)
end Go.Proofs.YtmmclabkkigiaaaGreatDoor

set_option maxRecDepth 20000
namespace Go.Proofs.YtmmclabkkigiaaaGreatDoor
open Go Go.RowKit
def atakeb_M (img : List Int) (l : List (Int × Int)) (gw : Int) (gi : Int) (gb : Int) (ba : Int) : Option (Int × Int × List (Int × Int)) :=
 (atake1_M img l gw gi gb ba gb).bind fun r14 =>
some (r14.1, r14.2.1, r14.2.2)
theorem atakeb_walk {img : List Int} {l : List (Int × Int)} {gw : Int} {gi : Int} {gb : Int} {ia : Int} {ba : Int} {ab ib bb vb : Nat} {r : Int × Int × List (Int × Int)} (B : Nat) (w : World) (hG : 1 < B) (hT : CellsAt (some ⟨1, 0, none⟩) tab8 w) (hm : atakeb_M img l gw gi gb ba = some r) : Spec Tryz.prog 139 #[(zp ab)] B w [zb ab 208 [(zp vb), (zi gw), (zi gi), (zi gb), (zp ib), (zi gi), (zp bb), (zi gb)], zb ib 213 [(zp vb), (zi ia), (zi gi)], zb bb 213 [(zp vb), (zi ba), (zi gb)], viewA (ptr vb) img l] (fun v H' => v = .tuple #[.int .i64 r.1, .int .i64 r.2.1] ∧ H' = [zb ab 208 [(zp vb), (zi gw), (zi gi), (zi gb), (zp ib), (zi gi), (zp bb), (zi gb)], zb ib 213 [(zp vb), (zi ia), (zi gi)], zb bb 213 [(zp vb), (zi ba), (zi gb)], viewA (ptr vb) img r.2.2]) := by
 refine spec_W Tryz.func139 rfl fun l0 hs => ?_
 unfold atakeb_M at hm
 refine W.sr fun K1 hK1 => ?_
 refine zN [(zp ab)] 192 hs fun b4 w2 hs3 => ?_
 refine zE 2 (hK1 _ _ ?_)
 refine W.seq fun K5 hK5 => ?_
 refine W.sr fun K6 hK6 => ?_
 refine zL ⟨b4, 0, none⟩ (zp ab) (hs3.cellAt 0 rfl rfl) ?_
 refine zE 1 (hK6 _ _ ?_)
 refine W.cond_false false (by kernel_rfl) rfl ?_
 refine W.skip ?_
 refine hK5 _ _ ?_
 refine W.seq fun K7 hK7 => ?_
 have hs8 := hs3.drew
 have hs9 := St.f3 hs8
 have hs10 := St.f3 hs9
 have hs11 := St.f3 hs10
 have hs12 := St.f3 hs11
 have hs13 := St.tk4 hs12
 refine W.regionD [(0, 0), (0, 0), (2, 2), (4, 4), (8, 8), (0, 0), (49, 49), (64, 64), (64, 64), (511, 128), (1023, 256)] (fun w_ => St B w l0 w_ [zb b4 192 [(zp ab)], zb ab 208 [(zp vb), (zi gw), (zi gi), (zi gb), (zp ib), (zi gi), (zp bb), (zi gb)], zb ib 213 [(zp vb), (zi ia), (zi gi)], zb bb 213 [(zp vb), (zi ba), (zi gb)]]) (by kernel_rfl) hs13 ?_
 refine zB 0 ⟨b4, 0, none⟩ (zp ab) (fun _ hS_ => (hS_.cellAt 0 rfl rfl)) hs13 ?_
 refine zB 1 ⟨b4, 0, none⟩ (zp ab) (fun _ hS_ => (hS_.cellAt 0 rfl rfl)) hs13 ?_
 refine zA (zp ab) 2 hs13 ?_
 refine zA (.pointer (some ⟨ab, 6, none⟩)) 3 hs13 ?_
 refine any_R 4 (by kernel_rfl) (fun _ hS_ => runs_loadAgg (ad := ⟨ab, 6, none⟩) (cs := [(zp bb), (zi gb)]) (by kernel_rfl) (cells_sub (hS_.heapAt 1 rfl) rfl)) hs13 ?_
 refine zA (.func (.func 147) #[] #[(zp b4)]) 5 hs13 ?_
 refine any_step 6 (by kernel_rfl) (by kernel_rfl) ?_
 obtain ⟨r14, h15, hm⟩ := bind_some hm
 have hs16 := St.f4 hs8
 have hs17 := St.f1 hs16
 have hs18 := St.f4 hs17
 have hs19 := St.f3 hs18
 refine ops_call4 hs19 (by kernel_rfl) (atake1_walk (ab := ab) (ib := ib) (bb := bb) (vb := vb) (mb := bb) (img := img) (l := l) (gw := gw) (gi := gi) (gb := gb) (at_ := ba) (many := gb) (pm := gb) (cb := b4) (hG := hG) (hT := (hs8.oldCellsB hG hT)) (hm := h15) B _) ?_
 rintro _ _ w20 ⟨rfl, rfl⟩ hs21
 have hs22 := St.ap4 hs21
 have hs23 := St.f1 hs22
 have hs24 := St.f4 hs23
 have hs25 := St.f2 hs24
 have hs26 := St.f3 hs25
 have hs27 := St.tk4 hs26
 refine ops_done (by kernel_rfl) ⟨hs27, ?_⟩
 refine zA (zi r14.1) 7 hs27 ?_
 refine zA (zi r14.2.1) 8 hs27 ?_
 refine zA (zi r14.1) 9 hs27 ?_
 refine zA (zi r14.2.1) 10 hs27 ?_
 refine any_done (by kernel_rfl) ?_
 refine hK7 _ _ ?_
 refine W.ret ?_
 obtain rfl := some_inj hm
 have hs28 := St.f3 hs22
 have hs29 := St.f2 hs28
 have hs30 := St.f4 hs29
 have hs31 := St.f3 hs30
 have hs32 := St.tk4 hs31
 refine ret_of (.tuple #[(zi r14.1), (zi r14.2.1)]) (by kernel_rfl) ⟨_, ⟨rfl, rfl⟩, hs32⟩
def agiveb_M (img : List Int) (l : List (Int × Int)) (gb : Int) (ba : Int) (n_ : Int) : Option (Int × List (Int × Int)) :=
 (pgive_M img l ba gb gb n_).bind fun r5 =>
some (r5.1, r5.2)
theorem agiveb_walk {img : List Int} {l : List (Int × Int)} {gw : Int} {gi : Int} {gb : Int} {ia : Int} {ba : Int} {n_ : Int} {ab ib bb vb : Nat} {r : Int × List (Int × Int)} (B : Nat) (w : World) (hm : agiveb_M img l gb ba n_ = some r) : Spec Tryz.prog 121 #[(zp ab), (zi n_)] B w [zb ab 208 [(zp vb), (zi gw), (zi gi), (zi gb), (zp ib), (zi gi), (zp bb), (zi gb)], zb ib 213 [(zp vb), (zi ia), (zi gi)], zb bb 213 [(zp vb), (zi ba), (zi gb)], viewA (ptr vb) img l] (fun v H' => v = .int .i64 r.1 ∧ H' = [zb ab 208 [(zp vb), (zi gw), (zi gi), (zi gb), (zp ib), (zi gi), (zp bb), (zi gb)], zb ib 213 [(zp vb), (zi ia), (zi gi)], zb bb 213 [(zp vb), (zi ba), (zi gb)], viewA (ptr vb) img r.2]) := by
 refine spec_W Tryz.func121 rfl fun l0 hs => ?_
 unfold agiveb_M at hm
 refine W.sr fun K1 hK1 => ?_
 refine zE 1 (hK1 _ _ ?_)
 refine W.seq fun K2 hK2 => ?_
 refine W.sr fun K3 hK3 => ?_
 refine zE 2 (hK3 _ _ ?_)
 refine W.cond_false false (by kernel_rfl) rfl ?_
 refine W.skip ?_
 refine hK2 _ _ ?_
 refine W.sr fun K4 hK4 => ?_
 refine zR 3 ?_
 refine zG ⟨ab, 6, none⟩ [(zp bb), (zi gb)] (cells_sub (hs.heapAt 0 rfl) rfl) ?_
 refine zR 1 ?_
 obtain ⟨r5, h6, hm⟩ := bind_some hm
 have hs7 := St.f3 hs
 have hs8 := St.f3 hs7
 refine zC22 hs8 (pgive_walk (hm := h6) B _) fun w9 hs11 => ?_
 refine zE 1 (hK4 _ _ ?_)
 refine W.ret ?_
 obtain rfl := some_inj hm
 have hs12 := St.f1 hs11
 have hs13 := St.f1 hs12
 have hs14 := St.f3 hs13
 have hs15 := St.f3 hs14
 refine ret_of (zi r5.1) (by kernel_rfl) ⟨_, ⟨rfl, rfl⟩, hs15⟩
def afree_M (img : List Int) (l : List (Int × Int)) (gi : Int) (gb : Int) (ia : Int) (ba : Int) : Option (Int × Int) :=
 (pfree_M img l ia gi gi).bind fun r6 =>
(pfree_M img l ba gb gb).bind fun r11 =>
some (r6, r11)
theorem afree_walk {img : List Int} {l : List (Int × Int)} {gw : Int} {gi : Int} {gb : Int} {ia : Int} {ba : Int} {ab ib bb vb : Nat} {r : Int × Int} (B : Nat) (w : World) (hab : w.heap[ab]? = some (.cells [(zp vb), (zi gw), (zi gi), (zi gb), (zp ib), (zi gi), (zp bb), (zi gb)].toArray 208 (0, 0))) (hib : w.heap[ib]? = some (.cells [(zp vb), (zi ia), (zi gi)].toArray 213 (0, 0))) (hbb : w.heap[bb]? = some (.cells [(zp vb), (zi ba), (zi gb)].toArray 213 (0, 0))) (hv : ViewAt (ptr vb) img l w) (hm : afree_M img l gi gb ia ba = some r) : Spec Tryz.prog 116 #[(zp ab)] B w [] (fun v H' => v = .tuple #[.int .i64 r.1, .int .i64 r.2] ∧ H' = []) := by
 refine spec_Q Tryz.func116 rfl fun hs => ?_
 unfold afree_M at hm
 refine W.sr fun K1 hK1 => ?_
 refine zE 2 (hK1 _ _ ?_)
 refine W.seq fun K2 hK2 => ?_
 refine W.sr fun K3 hK3 => ?_
 refine zE 2 (hK3 _ _ ?_)
 refine W.cond_false false (by kernel_rfl) rfl ?_
 refine W.skip ?_
 refine hK2 _ _ ?_
 refine W.seq fun K4 hK4 => ?_
 have hs5 := hs.drew
 refine W.regionD [(0, 0), (1, 1), (2, 2), (4, 4), (8, 8), (0, 0), (32, 32), (64, 64), (128, 128), (272, 256), (543, 16), (2047, 512)] (fun w_ => St B w [] w_ []) (by kernel_rfl) hs5 ?_
 refine zA (zp ab) 0 hs5 ?_
 refine zA (zp ab) 1 hs5 ?_
 refine zA (.pointer (some ⟨ab, 4, none⟩)) 2 hs5 ?_
 refine any_R 3 (by kernel_rfl) (fun _ hS_ => runs_loadAgg (ad := ⟨ab, 4, none⟩) (cs := [(zp ib), (zi gi)]) (by kernel_rfl) (cells_sub (hS_.old hab) rfl)) hs5 ?_
 refine zA (zp ab) 5 hs5 ?_
 refine zA (zp ab) 6 hs5 ?_
 refine zA (.pointer (some ⟨ab, 6, none⟩)) 7 hs5 ?_
 refine any_R 8 (by kernel_rfl) (fun _ hS_ => runs_loadAgg (ad := ⟨ab, 6, none⟩) (cs := [(zp bb), (zi gb)]) (by kernel_rfl) (cells_sub (hS_.old hab) rfl)) hs5 ?_
 refine any_step 4 (by kernel_rfl) (by kernel_rfl) ?_
 obtain ⟨r6, h7, hm⟩ := bind_some hm
 refine zC00 hs5 (pfree_walk (hmb := (hs5.old hib)) (hv := (viewAt_old hs5 hv)) (hm := h7) B _) fun w8 hs10 => ?_
 refine ops_done (by kernel_rfl) ⟨hs10, ?_⟩
 refine any_step 9 (by kernel_rfl) (by kernel_rfl) ?_
 obtain ⟨r11, h12, hm⟩ := bind_some hm
 refine zC00 hs10 (pfree_walk (hmb := (hs10.old hbb)) (hv := (viewAt_old hs10 hv)) (hm := h12) B _) fun w13 hs15 => ?_
 refine ops_done (by kernel_rfl) ⟨hs15, ?_⟩
 refine zA (zi r6) 10 hs15 ?_
 refine zA (zi r11) 11 hs15 ?_
 refine any_done (by kernel_rfl) ?_
 refine hK4 _ _ ?_
 refine W.ret ?_
 obtain rfl := some_inj hm
 refine ret_of (.tuple #[(zi r6), (zi r11)]) (by kernel_rfl) ⟨_, ⟨rfl, rfl⟩, hs15⟩
theorem atakeb_nil  (B : Nat) (w : World) : Spec Tryz.prog 139 #[(.pointer none)] B w [] (fun v H' => v = (.tuple #[(zi 0), (zi 2)]) ∧ H' = []) := by
 refine spec_Q Tryz.func139 rfl fun hs => ?_
 refine W.sr fun K1 hK1 => ?_
 refine zN [(.pointer none)] 192 hs fun b4 w2 hs3 => ?_
 refine zE 2 (hK1 _ _ ?_)
 refine W.seq fun K5 hK5 => ?_
 refine W.sr fun K6 hK6 => ?_
 refine zL ⟨b4, 0, none⟩ (.pointer none) (hs3.cellAt 0 rfl rfl) ?_
 refine zE 1 (hK6 _ _ ?_)
 refine W.cond_true true (by kernel_rfl) rfl ?_
 refine W.sr fun K7 hK7 => ?_
 refine zE 2 (hK7 _ _ ?_)
 refine W.ret (ret_seq ?_)
 have hs8 := St.tk0 hs3
 refine ret_of (.tuple #[(zi 0), (zi 2)]) (by kernel_rfl) ⟨_, ⟨rfl, rfl⟩, hs8⟩
theorem afree_nil  (B : Nat) (w : World) : Spec Tryz.prog 116 #[(.pointer none)] B w [] (fun v H' => v = (.tuple #[(zi 0), (zi 0)]) ∧ H' = []) := by
 refine spec_Q Tryz.func116 rfl fun hs => ?_
 refine W.sr fun K1 hK1 => ?_
 refine zE 2 (hK1 _ _ ?_)
 refine W.seq fun K2 hK2 => ?_
 refine W.sr fun K3 hK3 => ?_
 refine zE 2 (hK3 _ _ ?_)
 refine W.cond_true true (by kernel_rfl) rfl ?_
 refine W.sr fun K4 hK4 => ?_
 refine zE 2 (hK4 _ _ ?_)
 refine W.ret (ret_seq ?_)
 refine ret_of (.tuple #[(zi 0), (zi 0)]) (by kernel_rfl) ⟨_, ⟨rfl, rfl⟩, hs⟩
theorem agiveb_nil {n_ : Int} (B : Nat) (w : World) : Spec Tryz.prog 121 #[(.pointer none), (zi n_)] B w [] (fun v H' => v = (zi 2) ∧ H' = []) := by
 refine spec_Q Tryz.func121 rfl fun hs => ?_
 refine W.sr fun K1 hK1 => ?_
 refine zE 1 (hK1 _ _ ?_)
 refine W.seq fun K2 hK2 => ?_
 refine W.sr fun K3 hK3 => ?_
 refine zE 2 (hK3 _ _ ?_)
 refine W.cond_true true (by kernel_rfl) rfl ?_
 refine W.sr fun K4 hK4 => ?_
 refine zE 1 (hK4 _ _ ?_)
 refine W.ret (ret_seq ?_)
 refine ret_of (zi 2) (by kernel_rfl) ⟨_, ⟨rfl, rfl⟩, hs⟩
end Go.Proofs.YtmmclabkkigiaaaGreatDoor

set_option maxRecDepth 20000
set_option maxHeartbeats 2000000
namespace Go.Proofs.YtmmclabkkigiaaaGreatDoor
open Go Go.RowKit
def bown_M (gw : Int) (gi : Int) (gb : Int) (n_ : Int) (w_ : Int) : Option (Int) :=
 (some (placeOf 8 gw gi gb n_)).bind fun r4 =>
need (-9223372036854775808 ≤ (r4 + w_) ∧ (r4 + w_) ≤ 9223372036854775807) <|
some (r4 + w_)
theorem bown_walk {img : List Int} {l : List (Int × Int)} {gw : Int} {gi : Int} {gb : Int} {n_ : Int} {w_ : Int} {mb vb : Nat} {r : Int} (B : Nat) (w : World) (hmb : w.heap[mb]? = some (.cells [(zp vb), (zi gw), (zi gi), (zi gb), (zi n_)].toArray 164 (0, 0))) (hv : ViewAt (ptr vb) img l w) (hm : bown_M gw gi gb n_ w_ = some r) : Spec Tryz.prog 95 #[(zp mb), (zi w_)] B w [] (fun v H' => v = (zi r) ∧ H' = []) := by
 refine spec_Q Tryz.func95 rfl fun hs => ?_
 unfold bown_M at hm
 refine W.sr fun K1 hK1 => ?_
 refine zE 1 (hK1 _ _ ?_)
 refine W.seq fun K2 hK2 => ?_
 have hs3 := hs.drew
 refine W.regionD [(0, 0), (1, 1), (2, 2), (4, 4), (0, 0), (16, 16), (32, 32), (64, 64), (136, 136), (0, 0), (768, 768), (2047, 1024)] (fun w_ => St B w [] w_ []) (by kernel_rfl) hs3 ?_
 refine zA (zp mb) 0 hs3 ?_
 refine zA (zp mb) 1 hs3 ?_
 refine zA (.pointer (some ⟨mb, 1, none⟩)) 2 hs3 ?_
 refine any_R 3 (by kernel_rfl) (fun _ hS_ => runs_loadAgg (ad := ⟨mb, 1, none⟩) (cs := [(zi gw), (zi gi), (zi gb)]) (by kernel_rfl) (cells_sub (hS_.old hmb) rfl)) hs3 ?_
 refine zA (zp mb) 4 hs3 ?_
 refine zA (zp mb) 5 hs3 ?_
 refine zA (.pointer (some ⟨mb, 4, none⟩)) 6 hs3 ?_
 refine zB 7 ⟨mb, 4, none⟩ (zi n_) (fun _ hS_ => (cell_of_blk (hS_.old hmb) rfl)) hs3 ?_
 refine zA (zi w_) 9 hs3 ?_
 refine any_step 8 (by kernel_rfl) (by kernel_rfl) ?_
 obtain ⟨r4, h5, hm⟩ := bind_some hm
 replace h5 := some_inj h5
 refine ops_call0 hs3 (by kernel_rfl) (inodeat_spec (gw := gw) (gi := gi) (gb := gb) (n_ := n_) B _) ?_
 rintro _ _ w6 ⟨hv8, hH9⟩ hs7
 rw [h5] at hv8
 try rw [h5] at hH9
 subst hv8 hH9
 have hs10 := St.ap0 hs7
 refine ops_done (by kernel_rfl) ⟨hs10, ?_⟩
 obtain ⟨h11, hm⟩ := need_some hm
 refine any_val (v := .int .i64 (IntKind.i64.wrap (r4 + w_))) (v' := .int .i64 (r4 + w_)) 10 (by kernel_rfl) (fun _ => by kernel_rfl) (congrArg (Value.int .i64) (wrap_i64 h11.1 h11.2)) hs10 ?_
 refine zA (zi (r4 + w_)) 11 hs10 ?_
 refine any_done (by kernel_rfl) ?_
 refine hK2 _ _ ?_
 refine W.ret ?_
 obtain rfl := some_inj hm
 refine ret_of (zi (r4 + w_)) (by kernel_rfl) ⟨_, ⟨rfl, rfl⟩, hs10⟩
end Go.Proofs.YtmmclabkkigiaaaGreatDoor

set_option maxRecDepth 20000
set_option maxHeartbeats 2000000
namespace Go.Proofs.YtmmclabkkigiaaaGreatDoor
open Go Go.RowKit
def bchain_M (img : List Int) (l : List (Int × Int)) (gw : Int) (gi : Int) (gb : Int) (n_ : Int) : Option (Int) :=
 (bown_M gw gi gb n_ 8).bind fun r4 =>
need (-9223372036854775808 ≤ (vget img l r4) ∧ (vget img l r4) ≤ 9223372036854775807) <|
some (vget img l r4)
theorem bchain_walk {img : List Int} {l : List (Int × Int)} {gw : Int} {gi : Int} {gb : Int} {n_ : Int} {mb vb : Nat} {r : Int} (B : Nat) (w : World) (hmb : w.heap[mb]? = some (.cells [(zp vb), (zi gw), (zi gi), (zi gb), (zi n_)].toArray 164 (0, 0))) (hv : ViewAt (ptr vb) img l w) (hm : bchain_M img l gw gi gb n_ = some r) : Spec Tryz.prog 93 #[(zp mb)] B w [] (fun v H' => v = (zi r) ∧ H' = []) := by
 refine spec_Q Tryz.func93 rfl fun hs => ?_
 unfold bchain_M at hm
 refine W.sr fun K1 hK1 => ?_
 refine zE 1 (hK1 _ _ ?_)
 refine W.seq fun K2 hK2 => ?_
 have hs3 := hs.drew
 refine W.regionD [(0, 0), (1, 1), (2, 2), (4, 4), (0, 0), (16, 16), (40, 40), (64, 64), (255, 128)] (fun w_ => St B w [] w_ []) (by kernel_rfl) hs3 ?_
 refine zA (zp mb) 0 hs3 ?_
 refine zA (zp mb) 1 hs3 ?_
 refine zA (zp mb) 2 hs3 ?_
 refine zB 3 ⟨mb, 0, none⟩ (zp vb) (fun _ hS_ => (cell_of_blk (hS_.old hmb) rfl)) hs3 ?_
 refine zA (zp mb) 4 hs3 ?_
 refine any_step 5 (by kernel_rfl) (by kernel_rfl) ?_
 obtain ⟨r4, h5, hm⟩ := bind_some hm
 refine zC00 hs3 (bown_walk (w_ := 8) (img := img) (l := l) (gw := gw) (gi := gi) (gb := gb) (n_ := n_) (hmb := (hs3.old hmb)) (hv := (viewAt_old hs3 hv)) (hm := h5) B _) fun w6 hs8 => ?_
 refine ops_done (by kernel_rfl) ⟨hs8, ?_⟩
 refine any_step 6 (by kernel_rfl) (by kernel_rfl) ?_
 refine zC00 hs8 (get_spec (at_ := r4) (hv := (viewAt_old hs8 hv)) B _) fun w9 hs11 => ?_
 refine ops_done (by kernel_rfl) ⟨hs11, ?_⟩
 obtain ⟨h12, hm⟩ := need_some hm
 refine any_val (v := .int .i64 (IntKind.i64.wrap (vget img l r4))) (v' := .int .i64 (vget img l r4)) 7 (by kernel_rfl) (fun _ => by kernel_rfl) (congrArg (Value.int .i64) (wrap_i64 h12.1 h12.2)) hs11 ?_
 refine zA (zi (vget img l r4)) 8 hs11 ?_
 refine any_done (by kernel_rfl) ?_
 refine hK2 _ _ ?_
 refine W.ret ?_
 obtain rfl := some_inj hm
 refine ret_of (zi (vget img l r4)) (by kernel_rfl) ⟨_, ⟨rfl, rfl⟩, hs11⟩
def bdirect_M (gw : Int) (gi : Int) (gb : Int) (n_ : Int) (k_ : Int) : Option (Int × Bool) :=
 need (-9223372036854775808 ≤ (4 + k_) ∧ (4 + k_) ≤ 9223372036854775807) <|
(bown_M gw gi gb n_ (4 + k_)).bind fun r4 =>
some (r4, true)
theorem bdirect_walk {img : List Int} {l : List (Int × Int)} {gw : Int} {gi : Int} {gb : Int} {n_ : Int} {k_ : Int} {mb vb : Nat} {r : Int × Bool} (B : Nat) (w : World) (hmb : w.heap[mb]? = some (.cells [(zp vb), (zi gw), (zi gi), (zi gb), (zi n_)].toArray 164 (0, 0))) (hv : ViewAt (ptr vb) img l w) (hm : bdirect_M gw gi gb n_ k_ = some r) : Spec Tryz.prog 119 #[(zp mb), (zi k_)] B w [] (fun v H' => v = (.tuple #[(zi r.1), (.bool r.2)]) ∧ H' = []) := by
 refine spec_Q Tryz.func119 rfl fun hs => ?_
 unfold bdirect_M at hm
 refine W.sr fun K1 hK1 => ?_
 refine zE 2 (hK1 _ _ ?_)
 refine W.sr fun K2 hK2 => ?_
 refine zR 2 ?_
 obtain ⟨h3, hm⟩ := need_some hm
 refine zI _ (wrap_i64 h3.1 h3.2) ?_
 obtain ⟨r4, h5, hm⟩ := bind_some hm
 refine zC00 hs (bown_walk (w_ := (4 + k_)) (img := img) (l := l) (gw := gw) (gi := gi) (gb := gb) (n_ := n_) (hmb := (hs.old hmb)) (hv := (viewAt_old hs hv)) (hm := h5) B _) fun w6 hs8 => ?_
 refine zE 2 (hK2 _ _ ?_)
 refine W.ret ?_
 obtain rfl := some_inj hm
 refine ret_of (.tuple #[(zi r4), (.bool true)]) (by kernel_rfl) ⟨_, ⟨rfl, rfl⟩, hs8⟩
end Go.Proofs.YtmmclabkkigiaaaGreatDoor

set_option maxRecDepth 20000
set_option maxHeartbeats 2000000
namespace Go.Proofs.YtmmclabkkigiaaaGreatDoor
open Go Go.RowKit
def bchained_M (img : List Int) (l : List (Int × Int)) (gw : Int) (gi : Int) (gb : Int) (n_ : Int) (k_ : Int) : Option (Int × Bool) :=
 (bchain_M img l gw gi gb n_).bind fun r3 =>
need (-9223372036854775808 ≤ ((placeOf 9 gw gi gb r3) + k_) ∧ ((placeOf 9 gw gi gb r3) + k_) ≤ 9223372036854775807) <|
need (-9223372036854775808 ≤ (((placeOf 9 gw gi gb r3) + k_) - 4) ∧ (((placeOf 9 gw gi gb r3) + k_) - 4) ≤ 9223372036854775807) <|
(some (((placeOf 9 gw gi gb r3) + k_) - 4)).bind fun r14 =>
some (r14, !decide (r3 = 0))
theorem bchained_walk {img : List Int} {l : List (Int × Int)} {gw : Int} {gi : Int} {gb : Int} {n_ : Int} {k_ : Int} {mb vb : Nat} {r : Int × Bool} (B : Nat) (w : World) (hmb : w.heap[mb]? = some (.cells [(zp vb), (zi gw), (zi gi), (zi gb), (zi n_)].toArray 164 (0, 0))) (hv : ViewAt (ptr vb) img l w) (hm : bchained_M img l gw gi gb n_ k_ = some r) : Spec Tryz.prog 120 #[(zp mb), (zi k_)] B w [] (fun v H' => v = (.tuple #[(zi r.1), (.bool r.2)]) ∧ H' = []) := by
 refine spec_Q Tryz.func120 rfl fun hs => ?_
 unfold bchained_M at hm
 refine W.sr fun K1 hK1 => ?_
 refine zE 2 (hK1 _ _ ?_)
 refine W.sr fun K2 hK2 => ?_
 refine zR 1 ?_
 obtain ⟨r3, h4, hm⟩ := bind_some hm
 refine zC00 hs (bchain_walk (img := img) (l := l) (gw := gw) (gi := gi) (gb := gb) (n_ := n_) (hmb := (hs.old hmb)) (hv := (viewAt_old hs hv)) (hm := h4) B _) fun w5 hs7 => ?_
 refine zE 1 (hK2 _ _ ?_)
 refine W.sr fun K8 hK8 => ?_
 refine zR 3 ?_
 refine zG ⟨mb, 1, none⟩ [(zi gw), (zi gi), (zi gb)] (cells_sub (hs7.old hmb) rfl) ?_
 refine zR 1 ?_
 refine zC00 hs7 (blockat_spec (gw := gw) (gi := gi) (gb := gb) (n_ := r3) B _) fun w9 hs11 => ?_
 refine zR 1 ?_
 obtain ⟨h12, hm⟩ := need_some hm
 refine zI _ (wrap_i64 h12.1 h12.2) ?_
 obtain ⟨h13, hm⟩ := need_some hm
 refine zI _ (wrap_i64 h13.1 h13.2) ?_
 refine zR 3 ?_
 obtain ⟨r14, h15, hm⟩ := bind_some hm
 replace h15 := some_inj h15
 refine ops_set 4 (v := .int .i64 r14) (Eq.trans (by kernel_rfl) (congrArg (Value.int .i64) h15)) ?_
 refine zE 1 (hK8 _ _ ?_)
 refine W.ret ?_
 obtain rfl := some_inj hm
 refine ret_of (.tuple #[(zi r14), (.bool (!decide (r3 = 0)))]) (by kernel_rfl) ⟨_, ⟨rfl, rfl⟩, hs11⟩
end Go.Proofs.YtmmclabkkigiaaaGreatDoor

set_option maxRecDepth 20000
set_option maxHeartbeats 2000000
namespace Go.Proofs.YtmmclabkkigiaaaGreatDoor
open Go Go.RowKit
def bword_M (img : List Int) (l : List (Int × Int)) (gw : Int) (gi : Int) (gb : Int) (n_ : Int) (k_ : Int) : Option (Int × Bool) :=
 if k_ ≥ 4 then ((bchained_M img l gw gi gb n_ k_).bind fun r7 =>
some (r7.1, r7.2)) else ((bdirect_M gw gi gb n_ k_).bind fun r13 =>
some (r13.1, r13.2))
theorem bword_walk {img : List Int} {l : List (Int × Int)} {gw : Int} {gi : Int} {gb : Int} {n_ : Int} {k_ : Int} {mb vb : Nat} {r : Int × Bool} (B : Nat) (w : World) (hmb : w.heap[mb]? = some (.cells [(zp vb), (zi gw), (zi gi), (zi gb), (zi n_)].toArray 164 (0, 0))) (hv : ViewAt (ptr vb) img l w) (hm : bword_M img l gw gi gb n_ k_ = some r) : Spec Tryz.prog 88 #[(zp mb), (zi k_)] B w [] (fun v H' => v = (.tuple #[(zi r.1), (.bool r.2)]) ∧ H' = []) := by
 refine spec_Q Tryz.func88 rfl fun hs => ?_
 unfold bword_M at hm
 refine W.sr fun K1 hK1 => ?_
 refine zE 2 (hK1 _ _ ?_)
 refine W.sr fun K2 hK2 => ?_
 refine zE 3 (hK2 _ _ ?_)
 refine W.seq fun K3 hK3 => ?_
 refine W.sr fun K4 hK4 => ?_
 refine zE 2 (hK4 _ _ ?_)
 refine W.cond (decide (k_ ≥ 4)) (by kernel_rfl) (fun h5 => ?_) (fun h5 => ?_)
 ·
  obtain ⟨h5p, hm⟩ := iY hm h5
  refine W.region ?_
  refine zE 3 (hK3 _ _ ?_)
  refine W.sr fun K6 hK6 => ?_
  refine zR 2 ?_
  obtain ⟨r7, h8, hm⟩ := bind_some hm
  refine zC00 hs (bchained_walk (k_ := k_) (img := img) (l := l) (gw := gw) (gi := gi) (gb := gb) (n_ := n_) (hmb := (hs.old hmb)) (hv := (viewAt_old hs hv)) (hm := h8) B _) fun w9 hs11 => ?_
  refine zE 4 (hK6 _ _ ?_)
  refine W.ret ?_
  obtain rfl := some_inj hm
  refine ret_of (.tuple #[(zi r7.1), (.bool r7.2)]) (by kernel_rfl) ⟨_, ⟨rfl, rfl⟩, hs11⟩
 obtain ⟨h5p, hm⟩ := iN hm h5
 refine W.skip ?_
 refine hK3 _ _ ?_
 refine W.sr fun K12 hK12 => ?_
 refine zR 2 ?_
 obtain ⟨r13, h14, hm⟩ := bind_some hm
 refine zC00 hs (bdirect_walk (k_ := k_) (img := img) (l := l) (gw := gw) (gi := gi) (gb := gb) (n_ := n_) (hmb := (hs.old hmb)) (hv := (viewAt_old hs hv)) (hm := h14) B _) fun w15 hs17 => ?_
 refine zE 4 (hK12 _ _ ?_)
 refine W.ret ?_
 obtain rfl := some_inj hm
 refine ret_of (.tuple #[(zi r13.1), (.bool r13.2)]) (by kernel_rfl) ⟨_, ⟨rfl, rfl⟩, hs17⟩
end Go.Proofs.YtmmclabkkigiaaaGreatDoor

set_option maxRecDepth 20000
set_option maxHeartbeats 2000000
namespace Go.Proofs.YtmmclabkkigiaaaGreatDoor
open Go Go.RowKit
def bat_J2 (img : List Int) (l : List (Int × Int)) (gw : Int) (gi : Int) (gb : Int) (n_ : Int) (k_ : Int) (p5 : Int) : Option (Int × Int) :=
 if p5 = 0 then ((bword_M img l gw gi gb n_ k_).bind fun r11 =>
if r11.2 = true then (need (0 ≤ gb ∧ gb ≤ 18446744073709551615) <|
if (vget img l r11.1) ≥ gb then (some (0, 4)) else (need (-9223372036854775808 ≤ (vget img l r11.1) ∧ (vget img l r11.1) ≤ 9223372036854775807) <|
some ((vget img l r11.1), 0))) else (some (0, 0))) else (some (0, p5))
def bat_J1 (img : List Int) (l : List (Int × Int)) (gw : Int) (gi : Int) (gb : Int) (n_ : Int) (k_ : Int) : Option (Int × Int) :=
 (some (igetM img l gw gi gb n_)).bind fun r33 =>
bat_J2 img l gw gi gb n_ k_ r33.2
def bat_M (img : List Int) (l : List (Int × Int)) (gw : Int) (gi : Int) (gb : Int) (n_ : Int) (k_ : Int) : Option (Int × Int) :=
 if k_ < 0 then (if k_ < 0 then (some (0, 1)) else (bat_J1 img l gw gi gb n_ k_)) else (if k_ ≥ 12 then (some (0, 1)) else (bat_J1 img l gw gi gb n_ k_))
theorem bat_walk {img : List Int} {l : List (Int × Int)} {gw : Int} {gi : Int} {gb : Int} {n_ : Int} {k_ : Int} {mb vb : Nat} {r : Int × Int} (B : Nat) (w : World) (hmb : w.heap[mb]? = some (.cells [(zp vb), (zi gw), (zi gi), (zi gb), (zi n_)].toArray 164 (0, 0))) (hv : ViewAt (ptr vb) img l w) (hm : bat_M img l gw gi gb n_ k_ = some r) : Spec Tryz.prog 57 #[(zp mb), (zi k_)] B w [] (fun v H' => v = (.tuple #[(zi r.1), (zi r.2)]) ∧ H' = []) := by
 refine spec_Q Tryz.func57 rfl fun hs => ?_
 unfold bat_M at hm
 refine W.sr fun K1 hK1 => ?_
 refine zE 2 (hK1 _ _ ?_)
 refine W.seq_join (fun s_ w_ => (∃ us, s_ = slots 62 [(0, (zp mb)), (1, (zi k_))] us) ∧ St B w [] w_ [] ∧ bat_J1 img l gw gi gb n_ k_ = some r) ?_ ?_
 ·
  rintro _ w2 ⟨⟨us, rfl⟩, hs3, hm⟩
  unfold bat_J1 at hm
  refine W.seq fun K4 hK4 => ?_
  refine W.seq_join (fun s_ w_ => ∃ (p5 : Int), (∃ us, s_ = slots 62 [(0, (zp mb)), (1, (zi k_)), (7, (zi p5))] us) ∧ St B w [] w_ [] ∧ bat_J2 img l gw gi gb n_ k_ p5 = some r) ?_ ?_
  ·
   rintro _ w6 ⟨p5, ⟨us, rfl⟩, hs7, hm⟩
   unfold bat_J2 at hm
   refine W.sr fun K8 hK8 => ?_
   refine zE 2 (hK8 _ _ ?_)
   refine W.cond (!decide (p5 = 0)) (by kernel_rfl) (fun h9 => ?_) (fun h9 => ?_)
   rotate_left
   ·
    have h9p : p5 = 0 := of_decide_eq_true (bnot_false h9)
    replace hm := ite_yes hm h9p
    refine W.skip ?_
    refine hK4 _ _ ?_
    refine W.sr fun K10 hK10 => ?_
    refine zR 2 ?_
    obtain ⟨r11, h12, hm⟩ := bind_some hm
    refine zC00 hs7 (bword_walk (k_ := k_) (img := img) (l := l) (gw := gw) (gi := gi) (gb := gb) (n_ := n_) (hmb := (hs7.old hmb)) (hv := (viewAt_old hs7 hv)) (hm := h12) B _) fun w13 hs15 => ?_
    refine zE 5 (hK10 _ _ ?_)
    refine W.seq fun K16 hK16 => ?_
    refine W.sr fun K17 hK17 => ?_
    refine zE 2 (hK17 _ _ ?_)
    refine W.cond (!r11.2) (by kernel_rfl) (fun h18 => ?_) (fun h18 => ?_)
    rotate_left
    ·
     have h18p : r11.2 = true := (bnot_false h18)
     replace hm := ite_yes hm h18p
     refine W.skip ?_
     refine hK16 _ _ ?_
     refine W.sr fun K19 hK19 => ?_
     refine zR 3 ?_
     refine zL ⟨mb, 0, none⟩ (zp vb) (cell_of_blk (hs15.old hmb) rfl) ?_
     refine zR 1 ?_
     refine zC00 hs15 (get_spec (at_ := r11.1) (hv := (viewAt_old hs15 hv)) B _) fun w20 hs22 => ?_
     refine zE 1 (hK19 _ _ ?_)
     refine W.seq fun K23 hK23 => ?_
     refine W.sr fun K24 hK24 => ?_
     refine zR 5 ?_
     refine zL ⟨mb, 3, none⟩ (zi gb) (cell_of_blk (hs22.old hmb) rfl) ?_
     obtain ⟨h25, hm⟩ := need_some hm
     refine zI _ (wrap_u64 h25.1 (Int.lt_of_le_of_lt h25.2 (by decide))) ?_
     refine zE 1 (hK24 _ _ ?_)
     refine W.cond (decide ((vget img l r11.1) ≥ gb)) (by kernel_rfl) (fun h26 => ?_) (fun h26 => ?_)
     ·
      obtain ⟨h26p, hm⟩ := iY hm h26
      refine W.sr fun K27 hK27 => ?_
      refine zE 2 (hK27 _ _ ?_)
      refine W.ret (ret_seq ?_)
      obtain rfl := some_inj hm
      refine ret_of (.tuple #[(zi 0), (zi 4)]) (by kernel_rfl) ⟨_, ⟨rfl, rfl⟩, hs22⟩
     obtain ⟨h26p, hm⟩ := iN hm h26
     refine W.skip ?_
     refine hK23 _ _ ?_
     refine W.sr fun K28 hK28 => ?_
     refine zR 1 ?_
     obtain ⟨h29, hm⟩ := need_some hm
     refine zI _ (wrap_i64 h29.1 h29.2) ?_
     refine zE 2 (hK28 _ _ ?_)
     refine W.ret ?_
     obtain rfl := some_inj hm
     refine ret_of (.tuple #[(zi (vget img l r11.1)), (zi 0)]) (by kernel_rfl) ⟨_, ⟨rfl, rfl⟩, hs22⟩
    have h18p : ¬ (r11.2 = true) := ne_true_of_eq_false (bnot_true h18)
    replace hm := ite_no hm h18p
    refine W.sr fun K30 hK30 => ?_
    refine zE 2 (hK30 _ _ ?_)
    refine W.ret (ret_seq ?_)
    obtain rfl := some_inj hm
    refine ret_of (.tuple #[(zi 0), (zi 0)]) (by kernel_rfl) ⟨_, ⟨rfl, rfl⟩, hs15⟩
   have h9p : ¬ (p5 = 0) := of_decide_eq_false (bnot_true h9)
   replace hm := ite_no hm h9p
   refine W.sr fun K31 hK31 => ?_
   refine zE 3 (hK31 _ _ ?_)
   refine W.ret (ret_seq ?_)
   obtain rfl := some_inj hm
   refine ret_of (.tuple #[(zi 0), (zi p5)]) (by kernel_rfl) ⟨_, ⟨rfl, rfl⟩, hs7⟩
  have hs32 := hs3.drew
  refine W.regionD [(0, 0), (1, 1), (2, 2), (4, 4), (0, 0), (16, 16), (32, 32), (64, 64), (0, 0), (256, 256), (512, 512), (1024, 1024), (2184, 2184), (4096, 4096), (8192, 8192), (8192, 8192), (0, 0), (98303, 81920), (262143, 32768)] (fun w_ => St B w [] w_ []) (by kernel_rfl) hs32 ?_
  refine zA (zp mb) 0 hs32 ?_
  refine zA (zp mb) 1 hs32 ?_
  refine zA (zp mb) 2 hs32 ?_
  refine zB 3 ⟨mb, 0, none⟩ (zp vb) (fun _ hS_ => (cell_of_blk (hS_.old hmb) rfl)) hs32 ?_
  refine zA (zp mb) 4 hs32 ?_
  refine zA (zp mb) 5 hs32 ?_
  refine zA (.pointer (some ⟨mb, 1, none⟩)) 6 hs32 ?_
  refine any_R 7 (by kernel_rfl) (fun _ hS_ => runs_loadAgg (ad := ⟨mb, 1, none⟩) (cs := [(zi gw), (zi gi), (zi gb)]) (by kernel_rfl) (cells_sub (hS_.old hmb) rfl)) hs32 ?_
  refine zA (zp mb) 8 hs32 ?_
  refine zA (zp mb) 9 hs32 ?_
  refine zA (.pointer (some ⟨mb, 4, none⟩)) 10 hs32 ?_
  refine zB 11 ⟨mb, 4, none⟩ (zi n_) (fun _ hS_ => (cell_of_blk (hS_.old hmb) rfl)) hs32 ?_
  refine any_step2 12 16 (by kernel_rfl) (by kernel_rfl) (by kernel_rfl) ?_ ?_
  ·
   obtain ⟨r33, h34, hm⟩ := bind_some hm
   replace h34 := some_inj h34
   refine ops_call0 hs32 (by kernel_rfl) (ig_spec (gw := gw) (gi := gi) (gb := gb) (n_ := n_) (hv := (viewAt_old hs32 hv)) B _) ?_
   rintro _ _ w35 ⟨hv37, hH38⟩ hs36
   rw [h34] at hv37
   try rw [h34] at hH38
   subst hv37 hH38
   have hs39 := St.ap0 hs36
   refine ops_done (by kernel_rfl) ⟨hs39, ?_⟩
   refine zA (.tuple #[(.agg #[(zu r33.1.k), (zu r33.1.l), (zu r33.1.o), (zu r33.1.s), (zu r33.1.a), (zu r33.1.b), (zu r33.1.c), (zu r33.1.d), (zu r33.1.e), (zu r33.1.m)]), (zi r33.2)]) 13 hs39 ?_
   refine zA (.agg #[(zu r33.1.k), (zu r33.1.l), (zu r33.1.o), (zu r33.1.s), (zu r33.1.a), (zu r33.1.b), (zu r33.1.c), (zu r33.1.d), (zu r33.1.e), (zu r33.1.m)]) 14 hs39 ?_
   refine zA (zi r33.2) 15 hs39 ?_
   refine any_step 16 (by kernel_rfl) (by kernel_rfl) ?_
   refine zN [(zu 0), (zu 0), (zu 0), (zu 0), (zu 0), (zu 0), (zu 0), (zu 0), (zu 0), (zu 0)] 153 hs39 fun b42 w40 hs41 => ?_
   have hs43 := St.tk0 hs41
   refine ops_done (by kernel_rfl) ⟨hs43, ?_⟩
   refine any_step 17 (by kernel_rfl) (by kernel_rfl) ?_
   refine zT 0 [(zu r33.1.k), (zu r33.1.l), (zu r33.1.o), (zu r33.1.s), (zu r33.1.a), (zu r33.1.b), (zu r33.1.c), (zu r33.1.d), (zu r33.1.e), (zu r33.1.m)] [(zu r33.1.k), (zu r33.1.l), (zu r33.1.o), (zu r33.1.s), (zu r33.1.a), (zu r33.1.b), (zu r33.1.c), (zu r33.1.d), (zu r33.1.e), (zu r33.1.m)] hs41 fun w44 hs46 => ?_
   have hs47 := St.tk0 hs46
   refine ops_done (by kernel_rfl) ⟨hs47, ?_⟩
   refine zA (zi r33.2) 18 hs47 ?_
   refine any_done (by kernel_rfl) ?_
   have hs48 := St.tk0 hs46
   exact ⟨r33.2, slots_intro _ (by kernel_rfl), hs48, hm⟩
  refine zN [(zu 0), (zu 0), (zu 0), (zu 0), (zu 0), (zu 0), (zu 0), (zu 0), (zu 0), (zu 0)] 153 hs32 fun b51 w49 hs50 => ?_
  have hs52 := St.tk0 hs50
  refine ops_done (by kernel_rfl) ⟨hs52, ?_⟩
  refine any_step 12 (by kernel_rfl) (by kernel_rfl) ?_
  obtain ⟨r53, h54, hm⟩ := bind_some hm
  replace h54 := some_inj h54
  refine ops_call0 hs50 (by kernel_rfl) (ig_spec (gw := gw) (gi := gi) (gb := gb) (n_ := n_) (hv := (viewAt_old hs50 hv)) B _) ?_
  rintro _ _ w55 ⟨hv57, hH58⟩ hs56
  rw [h54] at hv57
  try rw [h54] at hH58
  subst hv57 hH58
  have hs59 := St.ap0 hs56
  have hs60 := St.tk0 hs59
  refine ops_done (by kernel_rfl) ⟨hs60, ?_⟩
  refine zA (.tuple #[(.agg #[(zu r53.1.k), (zu r53.1.l), (zu r53.1.o), (zu r53.1.s), (zu r53.1.a), (zu r53.1.b), (zu r53.1.c), (zu r53.1.d), (zu r53.1.e), (zu r53.1.m)]), (zi r53.2)]) 13 hs60 ?_
  refine zA (.agg #[(zu r53.1.k), (zu r53.1.l), (zu r53.1.o), (zu r53.1.s), (zu r53.1.a), (zu r53.1.b), (zu r53.1.c), (zu r53.1.d), (zu r53.1.e), (zu r53.1.m)]) 14 hs60 ?_
  refine zA (zi r53.2) 15 hs60 ?_
  refine any_step 17 (by kernel_rfl) (by kernel_rfl) ?_
  refine zT 0 [(zu r53.1.k), (zu r53.1.l), (zu r53.1.o), (zu r53.1.s), (zu r53.1.a), (zu r53.1.b), (zu r53.1.c), (zu r53.1.d), (zu r53.1.e), (zu r53.1.m)] [(zu r53.1.k), (zu r53.1.l), (zu r53.1.o), (zu r53.1.s), (zu r53.1.a), (zu r53.1.b), (zu r53.1.c), (zu r53.1.d), (zu r53.1.e), (zu r53.1.m)] hs59 fun w61 hs63 => ?_
  have hs64 := St.tk0 hs63
  refine ops_done (by kernel_rfl) ⟨hs64, ?_⟩
  refine zA (zi r53.2) 18 hs64 ?_
  refine any_done (by kernel_rfl) ?_
  have hs65 := St.tk0 hs63
  exact ⟨r53.2, slots_intro _ (by kernel_rfl), hs65, hm⟩
 refine W.block ?_
 refine W.sr fun K66 hK66 => ?_
 refine zE 3 (hK66 _ _ ?_)
 refine W.cond_false false (by kernel_rfl) rfl ?_
 refine W.seq fun K67 hK67 => ?_
 refine W.sr fun K68 hK68 => ?_
 refine zE 3 (hK68 _ _ ?_)
 refine W.cond (decide (k_ < 0)) (by kernel_rfl) (fun h69 => ?_) (fun h69 => ?_)
 ·
  obtain ⟨h69p, hm⟩ := iY hm h69
  refine W.skip ?_
  refine hK67 _ _ ?_
  refine W.cond (decide (k_ < 0)) (by kernel_rfl) (fun h70 => ?_) (fun h70 => ?_)
  ·
   obtain ⟨h70p, hm⟩ := iY hm h70
   refine W.sr fun K71 hK71 => ?_
   refine zE 2 (hK71 _ _ ?_)
   refine W.ret (ret_block (ret_seq ?_))
   obtain rfl := some_inj hm
   refine ret_of (.tuple #[(zi 0), (zi 1)]) (by kernel_rfl) ⟨_, ⟨rfl, rfl⟩, hs⟩
  obtain ⟨h70p, hm⟩ := iN hm h70
  refine W.skip ?_
  refine normal_block ?_
  exact ⟨slots_intro _ (by kernel_rfl), hs, hm⟩
 obtain ⟨h69p, hm⟩ := iN hm h69
 refine W.region ?_
 refine zE 3 (hK67 _ _ ?_)
 refine W.cond (decide (k_ ≥ 12)) (by kernel_rfl) (fun h72 => ?_) (fun h72 => ?_)
 ·
  obtain ⟨h72p, hm⟩ := iY hm h72
  refine W.sr fun K73 hK73 => ?_
  refine zE 2 (hK73 _ _ ?_)
  refine W.ret (ret_block (ret_seq ?_))
  obtain rfl := some_inj hm
  refine ret_of (.tuple #[(zi 0), (zi 1)]) (by kernel_rfl) ⟨_, ⟨rfl, rfl⟩, hs⟩
 obtain ⟨h72p, hm⟩ := iN hm h72
 refine W.skip ?_
 refine normal_block ?_
 exact ⟨slots_intro _ (by kernel_rfl), hs, hm⟩
end Go.Proofs.YtmmclabkkigiaaaGreatDoor

set_option maxRecDepth 20000
set_option maxHeartbeats 8000000
namespace Go.Proofs.YtmmclabkkigiaaaGreatDoor
open Go Go.RowKit
def tentry_J4 (img : List Int) (l : List (Int × Int)) (r31 : Int) (r63 : ByteArray × Int) (p69 : Bool) : Option (ByteArray × Int × Int) :=
 if p69 = true then (some (ByteArray.empty, 0, 4)) else (need (-9223372036854775808 ≤ (vget img l r31) ∧ (vget img l r31) ≤ 9223372036854775807) <|
some (r63.1, (vget img l r31), 0))
def tentry_J3 (img : List Int) (l : List (Int × Int)) (r31 : Int) (q58 : List Int) : Option (ByteArray × Int × Int) :=
 need (-9223372036854775808 ≤ (vget img l (r31 + 1)) ∧ (vget img l (r31 + 1)) ≤ 9223372036854775807) <|
(unpack_M q58 (vget img l (r31 + 1))).bind fun r63 =>
if r63.2 = 0 then ((emay_M r63.1).bind fun r89 =>
tentry_J4 img l r31 r63 (!r89)) else (tentry_J4 img l r31 r63 true)
def tentry_B0 (img : List Int) (l : List (Int × Int)) (r31 : Int) (k99 : ((List Int) × Int) → Option (ByteArray × Int × Int)) (q97 : List Int) (p98 : Int) : Option (ByteArray × Int × Int) :=
 if p98 < 8 then (need (-9223372036854775808 ≤ (r31 + p98) ∧ (r31 + p98) ≤ 9223372036854775807) <|
need (q97.length + 1 ≤ 1000000000) <|
need (-9223372036854775808 ≤ (p98 + 1) ∧ (p98 + 1) ≤ 9223372036854775807) <|
k99 ((q97 ++ [(vget img l (r31 + p98))]), (p98 + 1))) else (tentry_J3 img l r31 q97)
def tentry_J2 (img : List Int) (l : List (Int × Int)) (k_ : Int) (r31 : Int) (p43 : Bool) : Option (ByteArray × Int × Int) :=
 if p43 = true then (some (ByteArray.empty, 0, 4)) else (iter (fun k_ s_ => tentry_B0 img l r31 k_ s_.1 s_.2) FUEL ([], 2))
def tentry_J1 (img : List Int) (l : List (Int × Int)) (gw : Int) (gi : Int) (gb : Int) (k_ : Int) (r9 : Int × Int) (p15 : Bool) : Option (ByteArray × Int × Int) :=
 if p15 = true then (some (ByteArray.empty, 0, r9.2)) else ((some (placeOf 9 gw gi gb r9.1)).bind fun r31 =>
need (-9223372036854775808 ≤ (r31 + 1) ∧ (r31 + 1) ≤ 9223372036854775807) <|
if (vget img l r31) < 1 then (tentry_J2 img l k_ r31 true) else (need (0 ≤ gi ∧ gi ≤ 18446744073709551615) <|
if (vget img l r31) ≥ gi then (tentry_J2 img l k_ r31 true) else (tentry_J2 img l k_ r31 (decide ((vget img l (r31 + 1)) > 40)))))
def tentry_M (img : List Int) (l : List (Int × Int)) (gw : Int) (gi : Int) (gb : Int) (n_ : Int) (k_ : Int) : Option (ByteArray × Int × Int) :=
 (bat_M img l gw gi gb n_ k_).bind fun r9 =>
if r9.2 = 0 then (tentry_J1 img l gw gi gb k_ r9 (decide (r9.1 = 0))) else (tentry_J1 img l gw gi gb k_ r9 true)
theorem tentry_walk {img : List Int} {l : List (Int × Int)} {gw : Int} {gi : Int} {gb : Int} {n_ : Int} {k_ : Int} {mb vb : Nat} {r : ByteArray × Int × Int} (B : Nat) (w : World) (hm : tentry_M img l gw gi gb n_ k_ = some r) : Spec Tryz.prog 48 #[(.agg #[(zp vb), (zi gw), (zi gi), (zi gb), (zp mb)]), (zi k_)] B w [zb mb 164 [(zp vb), (zi gw), (zi gi), (zi gb), (zi n_)], viewA (ptr vb) img l] (fun v H' => v = (.tuple #[(.agg #[(.string r.1), (zi r.2.1)]), (zi r.2.2)]) ∧ H' = [zb mb 164 [(zp vb), (zi gw), (zi gi), (zi gb), (zi n_)], viewA (ptr vb) img l]) := by
 refine spec_W Tryz.func48 rfl fun l0 hs => ?_
 unfold tentry_M at hm
 refine W.sr fun K1 hK1 => ?_
 refine zN [(zp vb), (zi gw), (zi gi), (zi gb), (zp mb)] 97 hs fun b4 w2 hs3 => ?_
 refine zN [(.string ByteArray.empty), (zi 0)] 33 hs3 fun b7 w5 hs6 => ?_
 refine zE 1 (hK1 _ _ ?_)
 refine W.sr fun K8 hK8 => ?_
 refine zR 1 ?_
 refine zL ⟨b4, 4, none⟩ (zp mb) (hs6.cellAt 1 rfl rfl) ?_
 refine zR 1 ?_
 obtain ⟨r9, h10, hm⟩ := bind_some hm
 refine zC00 hs6 (bat_walk (k_ := k_) (img := img) (l := l) (gw := gw) (gi := gi) (gb := gb) (n_ := n_) (hmb := (hs6.heapAt 2 rfl)) (hv := (hs6.entAt 3 rfl viewA_at)) (hm := h10) B _) fun w11 hs13 => ?_
 refine zE 5 (hK8 _ _ ?_)
 refine W.seq fun K14 hK14 => ?_
 refine W.seq_join (fun s_ w_ => ∃ (p15 : Bool), (∃ us, s_ = slots 89 [(2, (zp b4)), (4, (zp b7)), (6, (zi r9.1)), (7, (zi r9.2)), (26, (.bool p15))] us) ∧ St B w l0 w_ [viewA (ptr vb) img l, zb mb 164 [(zp vb), (zi gw), (zi gi), (zi gb), (zi n_)], zb b4 97 [(zp vb), (zi gw), (zi gi), (zi gb), (zp mb)], zb b7 33 [(.string ByteArray.empty), (zi 0)]] ∧ tentry_J1 img l gw gi gb k_ r9 p15 = some r) ?_ ?_
 ·
  rintro _ w16 ⟨p15, ⟨us, rfl⟩, hs17, hm⟩
  unfold tentry_J1 at hm
  refine W.cond p15 (by kernel_rfl) (fun h18 => ?_) (fun h18 => ?_)
  ·
   have h18p : p15 = true := h18
   replace hm := ite_yes hm h18p
   refine W.sr fun K19 hK19 => ?_
   refine zR 2 ?_
   have hs22 := St.f3 hs17
   refine zT 0 [(.string ByteArray.empty), (zi 0)] [(.string ByteArray.empty), (zi 0)] hs22 fun w20 hs23 => ?_
   refine zE 1 (hK19 _ _ ?_)
   refine W.ret (ret_seq ?_)
   obtain rfl := some_inj hm
   have hs24 := St.f1 hs23
   have hs25 := St.f2 hs24
   have hs26 := St.tk2 hs25
   refine ret_of (.tuple #[(.agg #[(.string ByteArray.empty), (zi 0)]), (zi r9.2)]) (resS_of (by kernel_rfl) (resD_two rfl (.agg (ad := ⟨b7, 0, none⟩) (cs := [(.string ByteArray.empty), (zi 0)]) (by kernel_rfl) (by kernel_rfl) (cells_sub (hs23.heapAt 0 rfl) rfl)) (.tmp (by kernel_rfl)))) ⟨_, ⟨rfl, rfl⟩, hs26⟩
  have h18p : ¬ (p15 = true) := ne_true_of_eq_false h18
  replace hm := ite_no hm h18p
  refine W.skip ?_
  refine hK14 _ _ ?_
  refine W.sr fun K27 hK27 => ?_
  refine zR 1 ?_
  refine zG ⟨b4, 1, none⟩ [(zi gw), (zi gi), (zi gb)] (cells_sub (hs17.heapAt 2 rfl) rfl) ?_
  refine zR 1 ?_
  refine zC00 hs17 (blockat_spec (gw := gw) (gi := gi) (gb := gb) (n_ := r9.1) B _) fun w28 hs30 => ?_
  refine zR 1 ?_
  obtain ⟨r31, h32, hm⟩ := bind_some hm
  replace h32 := some_inj h32
  refine ops_set 8 (v := .int .i64 r31) (Eq.trans (by kernel_rfl) (congrArg (Value.int .i64) h32)) ?_
  refine zD (hK27 _ _ ?_)
  refine W.seq fun K33 hK33 => ?_
  have hs34 := hs30.drew
  refine W.regionD [(0, 0), (1, 1), (0, 0), (6, 6), (0, 0), (16, 16), (0, 0), (64, 64), (168, 160), (271, 8), (1023, 256)] (fun w_ => St B w l0 w_ [viewA (ptr vb) img l, zb mb 164 [(zp vb), (zi gw), (zi gi), (zi gb), (zi n_)], zb b4 97 [(zp vb), (zi gw), (zi gi), (zi gb), (zp mb)], zb b7 33 [(.string ByteArray.empty), (zi 0)]]) (by kernel_rfl) hs34 ?_
  refine zA (zp b4) 0 hs34 ?_
  refine zB 1 ⟨b4, 0, none⟩ (zp vb) (fun _ hS_ => (hS_.cellAt 2 rfl rfl)) hs34 ?_
  refine zA (zi r31) 2 hs34 ?_
  refine zA (zp b4) 4 hs34 ?_
  refine zB 5 ⟨b4, 0, none⟩ (zp vb) (fun _ hS_ => (hS_.cellAt 2 rfl rfl)) hs34 ?_
  refine zA (zi r31) 6 hs34 ?_
  obtain ⟨h35, hm⟩ := need_some hm
  refine any_val (v := .int .i64 (IntKind.i64.wrap (r31 + 1))) (v' := .int .i64 (r31 + 1)) 7 (by kernel_rfl) (fun _ => by kernel_rfl) (congrArg (Value.int .i64) (wrap_i64 h35.1 h35.2)) hs34 ?_
  refine any_step 3 (by kernel_rfl) (by kernel_rfl) ?_
  refine zC00 hs34 (get_spec (at_ := r31) (hv := (hs34.entAt 0 rfl viewA_at)) B _) fun w36 hs38 => ?_
  refine ops_done (by kernel_rfl) ⟨hs38, ?_⟩
  refine any_step 8 (by kernel_rfl) (by kernel_rfl) ?_
  refine zC00 hs38 (get_spec (at_ := (r31 + 1)) (hv := (hs38.entAt 0 rfl viewA_at)) B _) fun w39 hs41 => ?_
  refine ops_done (by kernel_rfl) ⟨hs41, ?_⟩
  refine zA (zu (vget img l r31)) 9 hs41 ?_
  refine zA (zu (vget img l (r31 + 1))) 10 hs41 ?_
  refine any_done (by kernel_rfl) ?_
  refine hK33 _ _ ?_
  refine W.seq fun K42 hK42 => ?_
  refine W.seq_join (fun s_ w_ => ∃ (p43 : Bool), (∃ us, s_ = slots 89 [(2, (zp b4)), (4, (zp b7)), (8, (zi r31)), (9, (zu (vget img l r31))), (10, (zu (vget img l (r31 + 1)))), (55, (.bool p43))] us) ∧ St B w l0 w_ [viewA (ptr vb) img l, zb mb 164 [(zp vb), (zi gw), (zi gi), (zi gb), (zi n_)], zb b4 97 [(zp vb), (zi gw), (zi gi), (zi gb), (zp mb)], zb b7 33 [(.string ByteArray.empty), (zi 0)]] ∧ tentry_J2 img l k_ r31 p43 = some r) ?_ ?_
  ·
   rintro _ w44 ⟨p43, ⟨us, rfl⟩, hs45, hm⟩
   unfold tentry_J2 at hm
   refine W.cond p43 (by kernel_rfl) (fun h46 => ?_) (fun h46 => ?_)
   ·
    have h46p : p43 = true := h46
    replace hm := ite_yes hm h46p
    refine W.sr fun K47 hK47 => ?_
    refine zR 1 ?_
    have hs50 := St.f3 hs45
    refine zT 0 [(.string ByteArray.empty), (zi 0)] [(.string ByteArray.empty), (zi 0)] hs50 fun w48 hs51 => ?_
    refine zE 1 (hK47 _ _ ?_)
    refine W.ret (ret_seq ?_)
    obtain rfl := some_inj hm
    have hs52 := St.f1 hs51
    have hs53 := St.f2 hs52
    have hs54 := St.tk2 hs53
    refine ret_of (.tuple #[(.agg #[(.string ByteArray.empty), (zi 0)]), (zi 4)]) (resS_of (by kernel_rfl) (resD_two rfl (.agg (ad := ⟨b7, 0, none⟩) (cs := [(.string ByteArray.empty), (zi 0)]) (by kernel_rfl) (by kernel_rfl) (cells_sub (hs51.heapAt 0 rfl) rfl)) (.tmp (by kernel_rfl)))) ⟨_, ⟨rfl, rfl⟩, hs54⟩
   have h46p : ¬ (p43 = true) := ne_true_of_eq_false h46
   replace hm := ite_no hm h46p
   refine W.skip ?_
   refine hK42 _ _ ?_
   refine W.sr fun K55 hK55 => ?_
   refine zE 1 (hK55 _ _ ?_)
   refine W.seq_join (fun s_ w_ => ∃ (q58 : List Int) (m56 : Option Addr) (m57 : Nat), (∃ us, s_ = slots 89 [(4, (zp b7)), (9, (zu (vget img l r31))), (10, (zu (vget img l (r31 + 1)))), (11, (.slice m56 q58.length m57))] us) ∧ St B w l0 w_ [zb b7 33 [(.string ByteArray.empty), (zi 0)], kU64.row m56 m57 q58, viewA (ptr vb) img l, zb mb 164 [(zp vb), (zi gw), (zi gi), (zi gb), (zi n_)], zb b4 97 [(zp vb), (zi gw), (zi gi), (zi gb), (zp mb)]] ∧ tentry_J3 img l r31 q58 = some r) ?_ ?_
   ·
    rintro _ w59 ⟨q58, m56, m57, ⟨us, rfl⟩, hs60, hm⟩
    unfold tentry_J3 at hm
    refine W.sr fun K61 hK61 => ?_
    refine zR 2 ?_
    obtain ⟨h62, hm⟩ := need_some hm
    refine zI _ (wrap_i64 h62.1 h62.2) ?_
    obtain ⟨r63, h64, hm⟩ := bind_some hm
    refine zC00 hs60 (unpack_walk (ws := q58) (n_ := (vget img l (r31 + 1))) (wa := m56) (wc := m57) (hw := (St.kcells kU64 hs60 1 rfl)) (hm := h64) B _) fun w65 hs67 => ?_
    refine zE 5 (hK61 _ _ ?_)
    refine W.seq fun K68 hK68 => ?_
    refine W.seq_join (fun s_ w_ => ∃ (p69 : Bool), (∃ us, s_ = slots 89 [(4, (zp b7)), (9, (zu (vget img l r31))), (13, (.string r63.1)), (83, (.bool p69))] us) ∧ St B w l0 w_ [zb b7 33 [(.string ByteArray.empty), (zi 0)], kU64.row m56 m57 q58, viewA (ptr vb) img l, zb mb 164 [(zp vb), (zi gw), (zi gi), (zi gb), (zi n_)], zb b4 97 [(zp vb), (zi gw), (zi gi), (zi gb), (zp mb)]] ∧ tentry_J4 img l r31 r63 p69 = some r) ?_ ?_
    ·
     rintro _ w70 ⟨p69, ⟨us, rfl⟩, hs71, hm⟩
     unfold tentry_J4 at hm
     refine W.cond p69 (by kernel_rfl) (fun h72 => ?_) (fun h72 => ?_)
     ·
      have h72p : p69 = true := h72
      replace hm := ite_yes hm h72p
      refine W.sr fun K73 hK73 => ?_
      refine zR 1 ?_
      refine zT 0 [(.string ByteArray.empty), (zi 0)] [(.string ByteArray.empty), (zi 0)] hs71 fun w74 hs76 => ?_
      refine zE 1 (hK73 _ _ ?_)
      refine W.ret (ret_seq ?_)
      obtain rfl := some_inj hm
      have hs77 := St.f2 hs76
      have hs78 := St.f3 hs77
      have hs79 := St.tk2 hs78
      refine ret_of (.tuple #[(.agg #[(.string ByteArray.empty), (zi 0)]), (zi 4)]) (resS_of (by kernel_rfl) (resD_two rfl (.agg (ad := ⟨b7, 0, none⟩) (cs := [(.string ByteArray.empty), (zi 0)]) (by kernel_rfl) (by kernel_rfl) (cells_sub (hs76.heapAt 0 rfl) rfl)) (.tmp (by kernel_rfl)))) ⟨_, ⟨rfl, rfl⟩, hs79⟩
     have h72p : ¬ (p69 = true) := ne_true_of_eq_false h72
     replace hm := ite_no hm h72p
     refine W.skip ?_
     refine hK68 _ _ ?_
     refine W.sr fun K80 hK80 => ?_
     refine zR 2 ?_
     obtain ⟨h81, hm⟩ := need_some hm
     refine zI _ (wrap_i64 h81.1 h81.2) ?_
     refine zR 1 ?_
     refine zT 0 [(.string r63.1), (zi (vget img l r31))] [(.string r63.1), (zi (vget img l r31))] hs71 fun w82 hs84 => ?_
     refine zE 1 (hK80 _ _ ?_)
     refine W.ret ?_
     obtain rfl := some_inj hm
     have hs85 := St.f2 hs84
     have hs86 := St.f3 hs85
     have hs87 := St.tk2 hs86
     refine ret_of (.tuple #[(.agg #[(.string r63.1), (zi (vget img l r31))]), (zi 0)]) (resS_of (by kernel_rfl) (resD_two rfl (.agg (ad := ⟨b7, 0, none⟩) (cs := [(.string r63.1), (zi (vget img l r31))]) (by kernel_rfl) (by kernel_rfl) (cells_sub (hs84.heapAt 0 rfl) rfl)) (.tmp (by kernel_rfl)))) ⟨_, ⟨rfl, rfl⟩, hs87⟩
    refine W.region ?_
    refine zR 3 ?_
    rcases Bool.eq_false_or_eq_true (!decide (r63.2 = 0)) with h88 | h88
    rotate_left
    ·
     have h88p : r63.2 = 0 := of_decide_eq_true (bnot_false h88)
     replace hm := ite_yes hm h88p
     refine zS 79 h88 ?_
     refine zS 78 h88 ?_
     refine zR 1 ?_
     obtain ⟨r89, h90, hm⟩ := bind_some hm
     refine zC00 hs67 (emay_walk (tx_ := r63.1) (hm := h90) B _) fun w91 hs93 => ?_
     refine zE 2 ?_
     exact ⟨(!r89), slots_intro _ (by kernel_rfl), hs93, hm⟩
    have h88p : ¬ (r63.2 = 0) := of_decide_eq_false (bnot_true h88)
    replace hm := ite_no hm h88p
    refine zS 79 h88 ?_
    refine zS 78 h88 ?_
    refine zE 4 ?_
    exact ⟨true, slots_intro _ (by kernel_rfl), hs67, hm⟩
   refine W.sr fun K94 hK94 => ?_
   refine zE 1 (hK94 _ _ ?_)
   refine W.block ?_
   have hs103 := St.knil kU64 hs45
   have hs104 := St.f4 hs103
   have hs105 := St.f4 hs104
   have hs106 := St.f4 hs105
   have hs107 := St.f4 hs106
   refine W.loop_iter (G := (List Int) × Int × (Option Addr) × Nat) (σ := (List Int) × Int) (fun | (q97, p98, m95, m96) => (q97, p98)) (fun | (q97, p98, m95, m96), s_, w_ => (∃ us, s_ = slots 89 [(2, (zp b4)), (4, (zp b7)), (8, (zi r31)), (9, (zu (vget img l r31))), (10, (zu (vget img l (r31 + 1)))), (11, (.slice m95 q97.length m96)), (12, (zi p98))] us) ∧ St B w l0 w_ [viewA (ptr vb) img l, zb mb 164 [(zp vb), (zi gw), (zi gi), (zi gb), (zi n_)], zb b4 97 [(zp vb), (zi gw), (zi gi), (zi gb), (zp mb)], zb b7 33 [(.string ByteArray.empty), (zi 0)], kU64.row m95 m96 q97]) ([], 2, none, 0) ⟨slots_intro _ (by kernel_rfl), hs107⟩ hm ?_
   rintro k99 ih100 ⟨q97, p98, m95, m96⟩ _ w101 ⟨⟨us, rfl⟩, hs102⟩ hm
   replace hm : tentry_B0 img l r31 k99 q97 p98 = some r := hm
   unfold tentry_B0 at hm
   refine W.seq fun K108 hK108 => ?_
   refine W.sr fun K109 hK109 => ?_
   refine zE 2 (hK109 _ _ ?_)
   refine W.cond (decide (p98 < 8)) (by kernel_rfl) (fun h110 => ?_) (fun h110 => ?_)
   ·
    obtain ⟨h110p, hm⟩ := iY hm h110
    refine W.skip ?_
    refine hK108 _ _ ?_
    refine W.seq fun K111 hK111 => ?_
    refine W.block ?_
    refine W.region ?_
    refine zR 2 ?_
    refine zL ⟨b4, 0, none⟩ (zp vb) (hs102.cellAt 2 rfl rfl) ?_
    refine zR 2 ?_
    obtain ⟨h112, hm⟩ := need_some hm
    refine zI _ (wrap_i64 h112.1 h112.2) ?_
    refine zC00 hs102 (get_spec (at_ := (r31 + p98)) (hv := (hs102.entAt 0 rfl viewA_at)) B _) fun w113 hs115 => ?_
    refine ops_new (fun b => .slice (some ⟨b, 0, none⟩) 1 1) (.cells [(zu (vget img l (r31 + p98)))].toArray 25 (0, 0)) hs115 (by kernel_rfl) (fun b118 w116 hs117 => ?_)
    have hs119 := St.f5 hs117
    obtain ⟨h124, hm⟩ := need_some hm
    refine ops_appendK kU64 (bytes := 8) (a' := (some ⟨b118, 0, none⟩)) (c' := 1) (l := q97) (m := [(vget img l (r31 + p98))]) hs119 (by kernel_rfl) (by simp) (cells_blk (hs119.heapAt 1 rfl)) (by unfold maxLen; (try simp only [List.length_cons, List.length_nil]); omega) (by (try simp only [List.length_cons, List.length_nil]); omega) (fun a120 c121 w122 hs123 => ?_)
    refine zE 1 ?_
    refine normal_block ?_
    refine hK111 _ _ ?_
    refine W.region ?_
    refine zR 1 ?_
    obtain ⟨h125, hm⟩ := need_some hm
    refine zI _ (wrap_i64 h125.1 h125.2) ?_
    refine zE 1 ?_
    have hs126 := St.f5 hs123
    have hs127 := St.f5 hs126
    have hs128 := St.f5 hs127
    have hs129 := St.f5 hs128
    have hs130 := St.tk5 hs129
    refine loopAt_next ?_
    exact ih100 ((q97 ++ [(vget img l (r31 + p98))]), (p98 + 1), a120, c121) _ _ ⟨slots_intro _ (by kernel_rfl), hs130⟩ hm
   obtain ⟨h110p, hm⟩ := iN hm h110
   refine W.exit (exit_seq (exit_seq (exit_here ?_)))
   have hs131 := St.f2 hs102
   have hs132 := St.f2 hs131
   have hs133 := St.f2 hs132
   have hs134 := St.f4 hs133
   have hs135 := St.f4 hs134
   exact ⟨q97, m95, m96, slots_intro _ (by kernel_rfl), hs135, hm⟩
  refine W.region ?_
  refine zR 3 ?_
  rcases Bool.eq_false_or_eq_true (decide ((vget img l r31) < 1)) with h136 | h136
  ·
   obtain ⟨h136p, hm⟩ := iY hm h136
   refine zS 44 h136 ?_
   refine zS 43 h136 ?_
   refine zE 11 ?_
   exact ⟨true, slots_intro _ (by kernel_rfl), hs41, hm⟩
  obtain ⟨h136p, hm⟩ := iN hm h136
  refine zS 44 h136 ?_
  refine zS 43 h136 ?_
  refine zR 3 ?_
  refine zL ⟨b4, 2, none⟩ (zi gi) (hs41.cellAt 2 rfl rfl) ?_
  obtain ⟨h137, hm⟩ := need_some hm
  refine zI _ (wrap_u64 h137.1 (Int.lt_of_le_of_lt h137.2 (by decide))) ?_
  refine zR 3 ?_
  rcases Bool.eq_false_or_eq_true (decide ((vget img l r31) ≥ gi)) with h138 | h138
  ·
   obtain ⟨h138p, hm⟩ := iY hm h138
   refine zS 52 h138 ?_
   refine zS 50 h138 ?_
   refine zS 51 h138 ?_
   refine zE 3 ?_
   exact ⟨true, slots_intro _ (by kernel_rfl), hs41, hm⟩
  obtain ⟨h138p, hm⟩ := iN hm h138
  refine zS 52 h138 ?_
  refine zS 50 h138 ?_
  refine zS 51 h138 ?_
  refine zE 3 ?_
  exact ⟨(decide ((vget img l (r31 + 1)) > 40)), slots_intro _ (by kernel_rfl), hs41, hm⟩
 refine W.region ?_
 refine zR 3 ?_
 rcases Bool.eq_false_or_eq_true (!decide (r9.2 = 0)) with h139 | h139
 rotate_left
 ·
  have h139p : r9.2 = 0 := of_decide_eq_true (bnot_false h139)
  replace hm := ite_yes hm h139p
  refine zS 23 h139 ?_
  refine zS 22 h139 ?_
  refine zE 3 ?_
  have hs140 := St.f1 hs13
  have hs141 := St.f2 hs140
  have hs142 := St.f3 hs141
  exact ⟨(decide (r9.1 = 0)), slots_intro _ (by kernel_rfl), hs142, hm⟩
 have h139p : ¬ (r9.2 = 0) := of_decide_eq_false (bnot_true h139)
 replace hm := ite_no hm h139p
 refine zS 23 h139 ?_
 refine zS 22 h139 ?_
 refine zE 3 ?_
 have hs143 := St.f1 hs13
 have hs144 := St.f2 hs143
 have hs145 := St.f3 hs144
 exact ⟨true, slots_intro _ (by kernel_rfl), hs145, hm⟩
end Go.Proofs.YtmmclabkkigiaaaGreatDoor

set_option maxRecDepth 20000
set_option maxHeartbeats 2000000
namespace Go.Proofs.YtmmclabkkigiaaaGreatDoor
open Go Go.RowKit
theorem around_spec {f_ : Int} (B : Nat) (w : World) : Spec Tryz.prog 47 #[(zi f_)] B w [] (fun v H' => ∃ b1, v = .func (.func 83) #[] #[ptr b1] ∧ H' = [zb b1 3 [(zi f_)]]) := by
 refine spec_Q Tryz.func47 rfl fun hs => ?_
 refine W.sr fun K1 hK1 => ?_
 refine zN [(zi f_)] 3 hs fun b4 w2 hs3 => ?_
 refine zE 1 (hK1 _ _ ?_)
 refine W.sr fun K5 hK5 => ?_
 refine zE 2 (hK5 _ _ ?_)
 refine W.ret ?_
 refine ret_of (.func (.func 83) #[] #[(zp b4)]) (by kernel_rfl) ⟨_, ⟨b4, rfl, rfl⟩, hs3⟩
theorem around1_spec {c1 yl : Nat} {f_ : Int} {Y : Nat → Asn} {Z : Asn} (B : Nat) (w : World) (hf : 0 ≤ f_ ∧ f_ ≤ 12) (hy : ∀ k : Nat, k < 12 → ∀ w', YSpec Tryz.prog yl #[(zi ((f_ + (k : Int)) % 12))] B w' [Y k] (fun v H' => (v = .bool true ∧ H' = [Y (k + 1)]) ∨ (v = .bool false ∧ H' = [Z]))) : Spec Tryz.prog 83 #[(.func (.yield yl) #[] #[]), (zp c1)] B w [zb c1 3 [(zi f_)], Y 0] (fun v H' => v = .tuple #[] ∧ (H' = [zb c1 3 [(zi f_)], Y 12] ∨ H' = [zb c1 3 [(zi f_)], Z])) := by
 refine spec_W Tryz.func83 rfl fun l0 hs => ?_
 refine W.sr fun K1 hK1 => ?_
 refine zE 1 (hK1 _ _ ?_)
 refine W.block ?_
 refine W.loop (G := Nat) (fun | k, s_, w_ => (∃ us, s_ = slots 15 [(0, (.func (.yield yl) #[] #[])), (1, (zp c1)), (4, (zi ((k : Nat) : Int)))] us) ∧ St B w l0 w_ [zb c1 3 [(zi f_)], Y k] ∧ (k ≤ 12)) (fun k => 12 - k) 0 ⟨slots_intro _ (by kernel_rfl), hs, by omega⟩ ?_
 rintro k _ w2 ⟨⟨us, rfl⟩, hs3, hk0⟩
 refine W.sr fun K4 hK4 => ?_
 refine zE 1 (hK4 _ _ ?_)
 refine W.seq fun K5 hK5 => ?_
 refine W.cond (decide (((k : Nat) : Int) < 12)) (by kernel_rfl) (fun h6 => ?_) (fun h6 => ?_)
 ·
  have h6p := of_decide_eq_true h6
  refine W.skip ?_
  refine hK5 _ _ ?_
  refine W.seq fun K7 hK7 => ?_
  refine W.block ?_
  refine W.sr fun K8 hK8 => ?_
  refine zE 2 (hK8 _ _ ?_)
  refine W.sr fun K9 hK9 => ?_
  refine zR 1 ?_
  refine zL ⟨c1, 0, none⟩ (zi f_) (hs3.cellAt 0 rfl rfl) ?_
  refine zR 1 ?_
  have h10 : -9223372036854775808 ≤ (f_ + ((k : Nat) : Int)) ∧ (f_ + ((k : Nat) : Int)) ≤ 9223372036854775807 := by omega
  refine zI _ (wrap_i64 h10.1 h10.2) ?_
  have h11 : 0 ≤ (f_ + ((k : Nat) : Int)) := by omega
  refine ops_R (v := .int .i64 ((f_ + ((k : Nat) : Int)) % 12)) (runs_rem (k := .i64) (a := (f_ + ((k : Nat) : Int))) (b := 12) (by kernel_rfl) (by decide) (Int.tmod_eq_emod_of_nonneg h11)) ?_
  have hs12 := St.f1 hs3
  refine ops_yield (pre := [Y k]) (l := yl) hs12 (by kernel_rfl) (by kernel_rfl) (hy k (by omega) _) ?_
  rintro _ _ w13 (⟨rfl, rfl⟩ | ⟨rfl, rfl⟩) hs14
  ·
   have hs15 : St B w l0 w13 [Y (k + 1), zb c1 3 [(zi f_)]] := hs14
   refine zE 1 (hK9 _ _ ?_)
   refine W.cond_false false (by kernel_rfl) rfl ?_
   refine W.skip ?_
   refine normal_block ?_
   refine hK7 _ _ ?_
   refine W.region ?_
   have h16 : -9223372036854775808 ≤ (((k : Nat) : Int) + 1) ∧ (((k : Nat) : Int) + 1) ≤ 9223372036854775807 := by omega
   refine zI _ (wrap_i64 h16.1 h16.2) ?_
   refine zE 1 ?_
   have hs17 := St.f1 hs15
   exact ⟨k + 1, ⟨slots_intro _ (by kernel_rfl), hs17, by omega⟩, by omega⟩
  have hs18 : St B w l0 w13 [Z, zb c1 3 [(zi f_)]] := hs14
  refine zE 1 (hK9 _ _ ?_)
  refine W.cond_true true (by kernel_rfl) rfl ?_
  refine W.ret (ret_block (ret_seq (ret_seq (ret_block ?_))))
  have hs19 := St.f1 hs18
  refine ret_of (.tuple #[]) (by kernel_rfl) ⟨_, ⟨rfl, .inr rfl⟩, hs19⟩
 have h6p := of_decide_eq_false h6
 refine W.exit (exit_seq (exit_seq (exit_here ?_)))
 have hn_ : k = 12 := by omega
 subst hn_
 refine ret_ofN (.tuple #[]) (by kernel_rfl) ⟨_, ⟨rfl, .inl rfl⟩, hs3⟩
end Go.Proofs.YtmmclabkkigiaaaGreatDoor
