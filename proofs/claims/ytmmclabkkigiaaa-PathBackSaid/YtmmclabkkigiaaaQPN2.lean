/- Texts, one behind the other: F6h, F7a, Bt, A3a, A3b, A3c, A3d, A3e, A0t, A5e, A5b, Rg, F5v, A5c, Rn, F0h, Rm, F0i, F0j, A0k, A5d, F5A, A5f, F6i, F3b. -/
import Derived.Laws.Entries
import Derived.Test.YtmmclabkkigiaaaQPN1
set_option linter.unusedVariables false
set_option linter.unusedSimpArgs false
set_option maxRecDepth 20000
set_option maxHeartbeats 2000000
namespace Go.Proofs.Ytmmclabkkigiaaa
open Go Go.RowKit
theorem ig_spec {b : Nat} {img : List Int} {l : List (Int × Int)} {gw gi gb n_ : Int} (B : Nat) (w : World) (hv : ViewAt (ptr b) img l w) : Spec Try.prog 28 #[(zp b), (.agg #[(zi gw), (zi gi), (zi gb)]), (zi n_)] B w [] (fun v H' => v = (.tuple #[(.agg #[(zu ((igetM img l gw gi gb n_).1.k)), (zu ((igetM img l gw gi gb n_).1.l)), (zu ((igetM img l gw gi gb n_).1.o)), (zu ((igetM img l gw gi gb n_).1.s)), (zu ((igetM img l gw gi gb n_).1.a)), (zu ((igetM img l gw gi gb n_).1.b)), (zu ((igetM img l gw gi gb n_).1.c)), (zu ((igetM img l gw gi gb n_).1.d)), (zu ((igetM img l gw gi gb n_).1.e)), (zu ((igetM img l gw gi gb n_).1.m))]), (zi ((igetM img l gw gi gb n_).2))]) ∧ H' = []) := by
 refine spec_Q Try.func28 rfl fun hs => ?_
 have hrg := ifind_range (img.length : Int) gw gi gb n_
 refine W.sr fun K1 hK1 => ?_
 refine zN [(zi gw), (zi gi), (zi gb)] 33 hs fun b4 w2 hs3 => ?_
 refine zN [(zu 0), (zu 0), (zu 0), (zu 0), (zu 0), (zu 0), (zu 0), (zu 0), (zu 0), (zu 0)] 61 hs3 fun b7 w5 hs6 => ?_
 refine zE 1 (hK1 _ _ ?_)
 refine W.sr fun K8 hK8 => ?_
 refine zR 1 ?_
 refine zG ⟨b4, 0, none⟩ [(zi gw), (zi gi), (zi gb)] (cells_sub (hs6.heapAt 1 rfl) rfl) ?_
 refine zR 1 ?_
 refine zC00 hs6 (ifind_spec (gw := gw) (gi := gi) (gb := gb) (n_ := n_) (hv := (viewAt_old hs6 hv)) B _) fun w9 hs11 => ?_
 refine zE 5 (hK8 _ _ ?_)
 refine W.seq fun K12 hK12 => ?_
 refine W.sr fun K13 hK13 => ?_
 refine zE 2 (hK13 _ _ ?_)
 refine W.cond (!decide ((ifind (img.length : Int) gw gi gb n_).2 = 0)) (by kernel_rfl) (fun h14 => ?_) (fun h14 => ?_)
 ·
  have h14p : ¬ ((ifind (img.length : Int) gw gi gb n_).2 = 0) := of_decide_eq_false (bnot_true h14)
  refine W.sr fun K15 hK15 => ?_
  refine zR 2 ?_
  refine zT 0 [(zu 0), (zu 0), (zu 0), (zu 0), (zu 0), (zu 0), (zu 0), (zu 0), (zu 0), (zu 0)] [(zu 0), (zu 0), (zu 0), (zu 0), (zu 0), (zu 0), (zu 0), (zu 0), (zu 0), (zu 0)] hs11 fun w16 hs18 => ?_
  refine zE 1 (hK15 _ _ ?_)
  refine W.ret (ret_seq ?_)
  have e_ : igetM img l gw gi gb n_ = (Nd.zero, (ifind (img.length : Int) gw gi gb n_).2) := by first | (exfalso; omega) | (simp only [igetM]; exact if_neg (by assumption))
  have hs19 := St.tk0 hs18
  refine ret_of (.tuple #[(.agg #[(zu 0), (zu 0), (zu 0), (zu 0), (zu 0), (zu 0), (zu 0), (zu 0), (zu 0), (zu 0)]), (zi ((ifind (img.length : Int) gw gi gb n_).2))]) (results_cell2 (ad := ⟨b7, 0, none⟩) (cs := [(zu 0), (zu 0), (zu 0), (zu 0), (zu 0), (zu 0), (zu 0), (zu 0), (zu 0), (zu 0)]) rfl (by kernel_rfl) (by kernel_rfl) (by kernel_rfl) (cells_sub (hs18.heapAt 0 rfl) rfl)) ⟨_, ⟨by rw [e_]; try rfl, rfl⟩, hs19⟩
 have h14p : (ifind (img.length : Int) gw gi gb n_).2 = 0 := of_decide_eq_true (bnot_false h14)
 refine W.skip ?_
 refine hK12 _ _ ?_
 refine W.sr fun K20 hK20 => ?_
 refine zN [(zu 0), (zu 0), (zu 0), (zu 0), (zu 0), (zu 0), (zu 0), (zu 0), (zu 0), (zu 0)] 93 hs11 fun b23 w21 hs22 => ?_
 refine zD (hK20 _ _ ?_)
 refine W.seq fun K24 hK24 => ?_
 refine W.sr fun K25 hK25 => ?_
 refine zE 1 (hK25 _ _ ?_)
 refine W.block ?_
 refine W.loop_start ?_
 refine loopAt_round ?_
 refine W.sr fun K26 hK26 => ?_
 refine zE 1 (hK26 _ _ ?_)
 refine W.seq fun K27 hK27 => ?_
 refine W.cond_true true (by kernel_rfl) rfl ?_
 refine W.skip ?_
 refine hK27 _ _ ?_
 refine W.seq fun K28 hK28 => ?_
 refine W.block ?_
 refine W.sr fun K29 hK29 => ?_
 refine zE 2 (hK29 _ _ ?_)
 refine W.region ?_
 refine zR 4 ?_
 refine zI ((ifind (img.length : Int) gw gi gb n_).1 + 0) (wrap_i64 (by omega) (by omega)) ?_
 refine zC00 hs22 (get_spec (at_ := ((ifind (img.length : Int) gw gi gb n_).1 + 0)) (hv := (viewAt_old hs22 hv)) B _) fun w30 hs32 => ?_
 refine zR 1 ?_
 refine zT 0 [(zu (vget img l ((ifind (img.length : Int) gw gi gb n_).1 + 0)))] [(zu (vget img l ((ifind (img.length : Int) gw gi gb n_).1 + 0))), (zu 0), (zu 0), (zu 0), (zu 0), (zu 0), (zu 0), (zu 0), (zu 0), (zu 0)] hs32 fun w33 hs35 => ?_
 refine zD ?_
 refine normal_block ?_
 refine hK28 _ _ ?_
 refine W.region ?_
 refine zE 2 ?_
 refine loopAt_next ?_
 refine loopAt_round ?_
 refine W.sr fun K36 hK36 => ?_
 refine zE 1 (hK36 _ _ ?_)
 refine W.seq fun K37 hK37 => ?_
 refine W.cond_true true (by kernel_rfl) rfl ?_
 refine W.skip ?_
 refine hK37 _ _ ?_
 refine W.seq fun K38 hK38 => ?_
 refine W.block ?_
 refine W.sr fun K39 hK39 => ?_
 refine zE 2 (hK39 _ _ ?_)
 refine W.region ?_
 refine zR 4 ?_
 refine zI ((ifind (img.length : Int) gw gi gb n_).1 + 1) (wrap_i64 (by omega) (by omega)) ?_
 refine zC00 hs35 (get_spec (at_ := ((ifind (img.length : Int) gw gi gb n_).1 + 1)) (hv := (viewAt_old hs35 hv)) B _) fun w40 hs42 => ?_
 refine zR 1 ?_
 refine zT 1 [(zu (vget img l ((ifind (img.length : Int) gw gi gb n_).1 + 1)))] [(zu (vget img l ((ifind (img.length : Int) gw gi gb n_).1 + 0))), (zu (vget img l ((ifind (img.length : Int) gw gi gb n_).1 + 1))), (zu 0), (zu 0), (zu 0), (zu 0), (zu 0), (zu 0), (zu 0), (zu 0)] hs42 fun w43 hs45 => ?_
 refine zD ?_
 refine normal_block ?_
 refine hK38 _ _ ?_
 refine W.region ?_
 refine zE 2 ?_
 refine loopAt_next ?_
 refine loopAt_round ?_
 refine W.sr fun K46 hK46 => ?_
 refine zE 1 (hK46 _ _ ?_)
 refine W.seq fun K47 hK47 => ?_
 refine W.cond_true true (by kernel_rfl) rfl ?_
 refine W.skip ?_
 refine hK47 _ _ ?_
 refine W.seq fun K48 hK48 => ?_
 refine W.block ?_
 refine W.sr fun K49 hK49 => ?_
 refine zE 2 (hK49 _ _ ?_)
 refine W.region ?_
 refine zR 4 ?_
 refine zI ((ifind (img.length : Int) gw gi gb n_).1 + 2) (wrap_i64 (by omega) (by omega)) ?_
 refine zC00 hs45 (get_spec (at_ := ((ifind (img.length : Int) gw gi gb n_).1 + 2)) (hv := (viewAt_old hs45 hv)) B _) fun w50 hs52 => ?_
 refine zR 1 ?_
 refine zT 2 [(zu (vget img l ((ifind (img.length : Int) gw gi gb n_).1 + 2)))] [(zu (vget img l ((ifind (img.length : Int) gw gi gb n_).1 + 0))), (zu (vget img l ((ifind (img.length : Int) gw gi gb n_).1 + 1))), (zu (vget img l ((ifind (img.length : Int) gw gi gb n_).1 + 2))), (zu 0), (zu 0), (zu 0), (zu 0), (zu 0), (zu 0), (zu 0)] hs52 fun w53 hs55 => ?_
 refine zD ?_
 refine normal_block ?_
 refine hK48 _ _ ?_
 refine W.region ?_
 refine zE 2 ?_
 refine loopAt_next ?_
 refine loopAt_round ?_
 refine W.sr fun K56 hK56 => ?_
 refine zE 1 (hK56 _ _ ?_)
 refine W.seq fun K57 hK57 => ?_
 refine W.cond_true true (by kernel_rfl) rfl ?_
 refine W.skip ?_
 refine hK57 _ _ ?_
 refine W.seq fun K58 hK58 => ?_
 refine W.block ?_
 refine W.sr fun K59 hK59 => ?_
 refine zE 2 (hK59 _ _ ?_)
 refine W.region ?_
 refine zR 4 ?_
 refine zI ((ifind (img.length : Int) gw gi gb n_).1 + 3) (wrap_i64 (by omega) (by omega)) ?_
 refine zC00 hs55 (get_spec (at_ := ((ifind (img.length : Int) gw gi gb n_).1 + 3)) (hv := (viewAt_old hs55 hv)) B _) fun w60 hs62 => ?_
 refine zR 1 ?_
 refine zT 3 [(zu (vget img l ((ifind (img.length : Int) gw gi gb n_).1 + 3)))] [(zu (vget img l ((ifind (img.length : Int) gw gi gb n_).1 + 0))), (zu (vget img l ((ifind (img.length : Int) gw gi gb n_).1 + 1))), (zu (vget img l ((ifind (img.length : Int) gw gi gb n_).1 + 2))), (zu (vget img l ((ifind (img.length : Int) gw gi gb n_).1 + 3))), (zu 0), (zu 0), (zu 0), (zu 0), (zu 0), (zu 0)] hs62 fun w63 hs65 => ?_
 refine zD ?_
 refine normal_block ?_
 refine hK58 _ _ ?_
 refine W.region ?_
 refine zE 2 ?_
 refine loopAt_next ?_
 refine loopAt_round ?_
 refine W.sr fun K66 hK66 => ?_
 refine zE 1 (hK66 _ _ ?_)
 refine W.seq fun K67 hK67 => ?_
 refine W.cond_true true (by kernel_rfl) rfl ?_
 refine W.skip ?_
 refine hK67 _ _ ?_
 refine W.seq fun K68 hK68 => ?_
 refine W.block ?_
 refine W.sr fun K69 hK69 => ?_
 refine zE 2 (hK69 _ _ ?_)
 refine W.region ?_
 refine zR 4 ?_
 refine zI ((ifind (img.length : Int) gw gi gb n_).1 + 4) (wrap_i64 (by omega) (by omega)) ?_
 refine zC00 hs65 (get_spec (at_ := ((ifind (img.length : Int) gw gi gb n_).1 + 4)) (hv := (viewAt_old hs65 hv)) B _) fun w70 hs72 => ?_
 refine zR 1 ?_
 refine zT 4 [(zu (vget img l ((ifind (img.length : Int) gw gi gb n_).1 + 4)))] [(zu (vget img l ((ifind (img.length : Int) gw gi gb n_).1 + 0))), (zu (vget img l ((ifind (img.length : Int) gw gi gb n_).1 + 1))), (zu (vget img l ((ifind (img.length : Int) gw gi gb n_).1 + 2))), (zu (vget img l ((ifind (img.length : Int) gw gi gb n_).1 + 3))), (zu (vget img l ((ifind (img.length : Int) gw gi gb n_).1 + 4))), (zu 0), (zu 0), (zu 0), (zu 0), (zu 0)] hs72 fun w73 hs75 => ?_
 refine zD ?_
 refine normal_block ?_
 refine hK68 _ _ ?_
 refine W.region ?_
 refine zE 2 ?_
 refine loopAt_next ?_
 refine loopAt_round ?_
 refine W.sr fun K76 hK76 => ?_
 refine zE 1 (hK76 _ _ ?_)
 refine W.seq fun K77 hK77 => ?_
 refine W.cond_true true (by kernel_rfl) rfl ?_
 refine W.skip ?_
 refine hK77 _ _ ?_
 refine W.seq fun K78 hK78 => ?_
 refine W.block ?_
 refine W.sr fun K79 hK79 => ?_
 refine zE 2 (hK79 _ _ ?_)
 refine W.region ?_
 refine zR 4 ?_
 refine zI ((ifind (img.length : Int) gw gi gb n_).1 + 5) (wrap_i64 (by omega) (by omega)) ?_
 refine zC00 hs75 (get_spec (at_ := ((ifind (img.length : Int) gw gi gb n_).1 + 5)) (hv := (viewAt_old hs75 hv)) B _) fun w80 hs82 => ?_
 refine zR 1 ?_
 refine zT 5 [(zu (vget img l ((ifind (img.length : Int) gw gi gb n_).1 + 5)))] [(zu (vget img l ((ifind (img.length : Int) gw gi gb n_).1 + 0))), (zu (vget img l ((ifind (img.length : Int) gw gi gb n_).1 + 1))), (zu (vget img l ((ifind (img.length : Int) gw gi gb n_).1 + 2))), (zu (vget img l ((ifind (img.length : Int) gw gi gb n_).1 + 3))), (zu (vget img l ((ifind (img.length : Int) gw gi gb n_).1 + 4))), (zu (vget img l ((ifind (img.length : Int) gw gi gb n_).1 + 5))), (zu 0), (zu 0), (zu 0), (zu 0)] hs82 fun w83 hs85 => ?_
 refine zD ?_
 refine normal_block ?_
 refine hK78 _ _ ?_
 refine W.region ?_
 refine zE 2 ?_
 refine loopAt_next ?_
 refine loopAt_round ?_
 refine W.sr fun K86 hK86 => ?_
 refine zE 1 (hK86 _ _ ?_)
 refine W.seq fun K87 hK87 => ?_
 refine W.cond_true true (by kernel_rfl) rfl ?_
 refine W.skip ?_
 refine hK87 _ _ ?_
 refine W.seq fun K88 hK88 => ?_
 refine W.block ?_
 refine W.sr fun K89 hK89 => ?_
 refine zE 2 (hK89 _ _ ?_)
 refine W.region ?_
 refine zR 4 ?_
 refine zI ((ifind (img.length : Int) gw gi gb n_).1 + 6) (wrap_i64 (by omega) (by omega)) ?_
 refine zC00 hs85 (get_spec (at_ := ((ifind (img.length : Int) gw gi gb n_).1 + 6)) (hv := (viewAt_old hs85 hv)) B _) fun w90 hs92 => ?_
 refine zR 1 ?_
 refine zT 6 [(zu (vget img l ((ifind (img.length : Int) gw gi gb n_).1 + 6)))] [(zu (vget img l ((ifind (img.length : Int) gw gi gb n_).1 + 0))), (zu (vget img l ((ifind (img.length : Int) gw gi gb n_).1 + 1))), (zu (vget img l ((ifind (img.length : Int) gw gi gb n_).1 + 2))), (zu (vget img l ((ifind (img.length : Int) gw gi gb n_).1 + 3))), (zu (vget img l ((ifind (img.length : Int) gw gi gb n_).1 + 4))), (zu (vget img l ((ifind (img.length : Int) gw gi gb n_).1 + 5))), (zu (vget img l ((ifind (img.length : Int) gw gi gb n_).1 + 6))), (zu 0), (zu 0), (zu 0)] hs92 fun w93 hs95 => ?_
 refine zD ?_
 refine normal_block ?_
 refine hK88 _ _ ?_
 refine W.region ?_
 refine zE 2 ?_
 refine loopAt_next ?_
 refine loopAt_round ?_
 refine W.sr fun K96 hK96 => ?_
 refine zE 1 (hK96 _ _ ?_)
 refine W.seq fun K97 hK97 => ?_
 refine W.cond_true true (by kernel_rfl) rfl ?_
 refine W.skip ?_
 refine hK97 _ _ ?_
 refine W.seq fun K98 hK98 => ?_
 refine W.block ?_
 refine W.sr fun K99 hK99 => ?_
 refine zE 2 (hK99 _ _ ?_)
 refine W.region ?_
 refine zR 4 ?_
 refine zI ((ifind (img.length : Int) gw gi gb n_).1 + 7) (wrap_i64 (by omega) (by omega)) ?_
 refine zC00 hs95 (get_spec (at_ := ((ifind (img.length : Int) gw gi gb n_).1 + 7)) (hv := (viewAt_old hs95 hv)) B _) fun w100 hs102 => ?_
 refine zR 1 ?_
 refine zT 7 [(zu (vget img l ((ifind (img.length : Int) gw gi gb n_).1 + 7)))] [(zu (vget img l ((ifind (img.length : Int) gw gi gb n_).1 + 0))), (zu (vget img l ((ifind (img.length : Int) gw gi gb n_).1 + 1))), (zu (vget img l ((ifind (img.length : Int) gw gi gb n_).1 + 2))), (zu (vget img l ((ifind (img.length : Int) gw gi gb n_).1 + 3))), (zu (vget img l ((ifind (img.length : Int) gw gi gb n_).1 + 4))), (zu (vget img l ((ifind (img.length : Int) gw gi gb n_).1 + 5))), (zu (vget img l ((ifind (img.length : Int) gw gi gb n_).1 + 6))), (zu (vget img l ((ifind (img.length : Int) gw gi gb n_).1 + 7))), (zu 0), (zu 0)] hs102 fun w103 hs105 => ?_
 refine zD ?_
 refine normal_block ?_
 refine hK98 _ _ ?_
 refine W.region ?_
 refine zE 2 ?_
 refine loopAt_next ?_
 refine loopAt_round ?_
 refine W.sr fun K106 hK106 => ?_
 refine zE 1 (hK106 _ _ ?_)
 refine W.seq fun K107 hK107 => ?_
 refine W.cond_true true (by kernel_rfl) rfl ?_
 refine W.skip ?_
 refine hK107 _ _ ?_
 refine W.seq fun K108 hK108 => ?_
 refine W.block ?_
 refine W.sr fun K109 hK109 => ?_
 refine zE 2 (hK109 _ _ ?_)
 refine W.region ?_
 refine zR 4 ?_
 refine zI ((ifind (img.length : Int) gw gi gb n_).1 + 8) (wrap_i64 (by omega) (by omega)) ?_
 refine zC00 hs105 (get_spec (at_ := ((ifind (img.length : Int) gw gi gb n_).1 + 8)) (hv := (viewAt_old hs105 hv)) B _) fun w110 hs112 => ?_
 refine zR 1 ?_
 refine zT 8 [(zu (vget img l ((ifind (img.length : Int) gw gi gb n_).1 + 8)))] [(zu (vget img l ((ifind (img.length : Int) gw gi gb n_).1 + 0))), (zu (vget img l ((ifind (img.length : Int) gw gi gb n_).1 + 1))), (zu (vget img l ((ifind (img.length : Int) gw gi gb n_).1 + 2))), (zu (vget img l ((ifind (img.length : Int) gw gi gb n_).1 + 3))), (zu (vget img l ((ifind (img.length : Int) gw gi gb n_).1 + 4))), (zu (vget img l ((ifind (img.length : Int) gw gi gb n_).1 + 5))), (zu (vget img l ((ifind (img.length : Int) gw gi gb n_).1 + 6))), (zu (vget img l ((ifind (img.length : Int) gw gi gb n_).1 + 7))), (zu (vget img l ((ifind (img.length : Int) gw gi gb n_).1 + 8))), (zu 0)] hs112 fun w113 hs115 => ?_
 refine zD ?_
 refine normal_block ?_
 refine hK108 _ _ ?_
 refine W.region ?_
 refine zE 2 ?_
 refine loopAt_next ?_
 refine loopAt_round ?_
 refine W.sr fun K116 hK116 => ?_
 refine zE 1 (hK116 _ _ ?_)
 refine W.seq fun K117 hK117 => ?_
 refine W.cond_true true (by kernel_rfl) rfl ?_
 refine W.skip ?_
 refine hK117 _ _ ?_
 refine W.seq fun K118 hK118 => ?_
 refine W.block ?_
 refine W.sr fun K119 hK119 => ?_
 refine zE 2 (hK119 _ _ ?_)
 refine W.region ?_
 refine zR 4 ?_
 refine zI ((ifind (img.length : Int) gw gi gb n_).1 + 9) (wrap_i64 (by omega) (by omega)) ?_
 refine zC00 hs115 (get_spec (at_ := ((ifind (img.length : Int) gw gi gb n_).1 + 9)) (hv := (viewAt_old hs115 hv)) B _) fun w120 hs122 => ?_
 refine zR 1 ?_
 refine zT 9 [(zu (vget img l ((ifind (img.length : Int) gw gi gb n_).1 + 9)))] [(zu (vget img l ((ifind (img.length : Int) gw gi gb n_).1 + 0))), (zu (vget img l ((ifind (img.length : Int) gw gi gb n_).1 + 1))), (zu (vget img l ((ifind (img.length : Int) gw gi gb n_).1 + 2))), (zu (vget img l ((ifind (img.length : Int) gw gi gb n_).1 + 3))), (zu (vget img l ((ifind (img.length : Int) gw gi gb n_).1 + 4))), (zu (vget img l ((ifind (img.length : Int) gw gi gb n_).1 + 5))), (zu (vget img l ((ifind (img.length : Int) gw gi gb n_).1 + 6))), (zu (vget img l ((ifind (img.length : Int) gw gi gb n_).1 + 7))), (zu (vget img l ((ifind (img.length : Int) gw gi gb n_).1 + 8))), (zu (vget img l ((ifind (img.length : Int) gw gi gb n_).1 + 9)))] hs122 fun w123 hs125 => ?_
 refine zD ?_
 refine normal_block ?_
 refine hK118 _ _ ?_
 refine W.region ?_
 refine zE 2 ?_
 refine loopAt_next ?_
 refine loopAt_round ?_
 refine W.sr fun K126 hK126 => ?_
 refine zE 1 (hK126 _ _ ?_)
 refine W.seq fun K127 hK127 => ?_
 refine W.cond_false false (by kernel_rfl) rfl ?_
 refine W.exit (exit_seq (exit_seq (exit_here ?_)))
 refine hK24 _ _ ?_
 refine W.sr fun K128 hK128 => ?_
 refine zG ⟨b23, 0, none⟩ [(zu (vget img l ((ifind (img.length : Int) gw gi gb n_).1 + 0))), (zu (vget img l ((ifind (img.length : Int) gw gi gb n_).1 + 1))), (zu (vget img l ((ifind (img.length : Int) gw gi gb n_).1 + 2))), (zu (vget img l ((ifind (img.length : Int) gw gi gb n_).1 + 3))), (zu (vget img l ((ifind (img.length : Int) gw gi gb n_).1 + 4))), (zu (vget img l ((ifind (img.length : Int) gw gi gb n_).1 + 5))), (zu (vget img l ((ifind (img.length : Int) gw gi gb n_).1 + 6))), (zu (vget img l ((ifind (img.length : Int) gw gi gb n_).1 + 7))), (zu (vget img l ((ifind (img.length : Int) gw gi gb n_).1 + 8))), (zu (vget img l ((ifind (img.length : Int) gw gi gb n_).1 + 9)))] (cells_sub (hs125.heapAt 0 rfl) rfl) ?_
 refine zC00 hs125 (inode_spec (x_ := ⟨(vget img l ((ifind (img.length : Int) gw gi gb n_).1 + 0)), (vget img l ((ifind (img.length : Int) gw gi gb n_).1 + 1)), (vget img l ((ifind (img.length : Int) gw gi gb n_).1 + 2)), (vget img l ((ifind (img.length : Int) gw gi gb n_).1 + 3)), (vget img l ((ifind (img.length : Int) gw gi gb n_).1 + 4)), (vget img l ((ifind (img.length : Int) gw gi gb n_).1 + 5)), (vget img l ((ifind (img.length : Int) gw gi gb n_).1 + 6)), (vget img l ((ifind (img.length : Int) gw gi gb n_).1 + 7)), (vget img l ((ifind (img.length : Int) gw gi gb n_).1 + 8)), (vget img l ((ifind (img.length : Int) gw gi gb n_).1 + 9))⟩) B _) fun w129 hs131 => ?_
 refine zN [(zu 0), (zu 0), (zu 0), (zu 0), (zu 0), (zu 0), (zu 0), (zu 0), (zu 0), (zu 0)] 61 hs131 fun b134 w132 hs133 => ?_
 refine zT 0 [(zu (vget img l ((ifind (img.length : Int) gw gi gb n_).1 + 0))), (zu (vget img l ((ifind (img.length : Int) gw gi gb n_).1 + 1))), (zu (vget img l ((ifind (img.length : Int) gw gi gb n_).1 + 2))), (zu (vget img l ((ifind (img.length : Int) gw gi gb n_).1 + 3))), (zu (vget img l ((ifind (img.length : Int) gw gi gb n_).1 + 4))), (zu (vget img l ((ifind (img.length : Int) gw gi gb n_).1 + 5))), (zu (vget img l ((ifind (img.length : Int) gw gi gb n_).1 + 6))), (zu (vget img l ((ifind (img.length : Int) gw gi gb n_).1 + 7))), (zu (vget img l ((ifind (img.length : Int) gw gi gb n_).1 + 8))), (zu (vget img l ((ifind (img.length : Int) gw gi gb n_).1 + 9)))] [(zu (vget img l ((ifind (img.length : Int) gw gi gb n_).1 + 0))), (zu (vget img l ((ifind (img.length : Int) gw gi gb n_).1 + 1))), (zu (vget img l ((ifind (img.length : Int) gw gi gb n_).1 + 2))), (zu (vget img l ((ifind (img.length : Int) gw gi gb n_).1 + 3))), (zu (vget img l ((ifind (img.length : Int) gw gi gb n_).1 + 4))), (zu (vget img l ((ifind (img.length : Int) gw gi gb n_).1 + 5))), (zu (vget img l ((ifind (img.length : Int) gw gi gb n_).1 + 6))), (zu (vget img l ((ifind (img.length : Int) gw gi gb n_).1 + 7))), (zu (vget img l ((ifind (img.length : Int) gw gi gb n_).1 + 8))), (zu (vget img l ((ifind (img.length : Int) gw gi gb n_).1 + 9)))] hs133 fun w135 hs137 => ?_
 refine zD (hK128 _ _ ?_)
 refine W.seq fun K138 hK138 => ?_
 refine W.sr fun K139 hK139 => ?_
 refine zG ⟨b4, 0, none⟩ [(zi gw), (zi gi), (zi gb)] (cells_sub (hs137.heapAt 3 rfl) rfl) ?_
 refine zG ⟨b134, 0, none⟩ [(zu (vget img l ((ifind (img.length : Int) gw gi gb n_).1 + 0))), (zu (vget img l ((ifind (img.length : Int) gw gi gb n_).1 + 1))), (zu (vget img l ((ifind (img.length : Int) gw gi gb n_).1 + 2))), (zu (vget img l ((ifind (img.length : Int) gw gi gb n_).1 + 3))), (zu (vget img l ((ifind (img.length : Int) gw gi gb n_).1 + 4))), (zu (vget img l ((ifind (img.length : Int) gw gi gb n_).1 + 5))), (zu (vget img l ((ifind (img.length : Int) gw gi gb n_).1 + 6))), (zu (vget img l ((ifind (img.length : Int) gw gi gb n_).1 + 7))), (zu (vget img l ((ifind (img.length : Int) gw gi gb n_).1 + 8))), (zu (vget img l ((ifind (img.length : Int) gw gi gb n_).1 + 9)))] (cells_sub (hs137.heapAt 0 rfl) rfl) ?_
 refine zC00 hs137 (right_spec (gw := gw) (gi := gi) (gb := gb) (x_ := ⟨(vget img l ((ifind (img.length : Int) gw gi gb n_).1 + 0)), (vget img l ((ifind (img.length : Int) gw gi gb n_).1 + 1)), (vget img l ((ifind (img.length : Int) gw gi gb n_).1 + 2)), (vget img l ((ifind (img.length : Int) gw gi gb n_).1 + 3)), (vget img l ((ifind (img.length : Int) gw gi gb n_).1 + 4)), (vget img l ((ifind (img.length : Int) gw gi gb n_).1 + 5)), (vget img l ((ifind (img.length : Int) gw gi gb n_).1 + 6)), (vget img l ((ifind (img.length : Int) gw gi gb n_).1 + 7)), (vget img l ((ifind (img.length : Int) gw gi gb n_).1 + 8)), (vget img l ((ifind (img.length : Int) gw gi gb n_).1 + 9))⟩) B _) fun w140 hs142 => ?_
 refine zE 1 (hK139 _ _ ?_)
 refine W.cond (!(decide (RightP gw gi gb ⟨(vget img l ((ifind (img.length : Int) gw gi gb n_).1 + 0)), (vget img l ((ifind (img.length : Int) gw gi gb n_).1 + 1)), (vget img l ((ifind (img.length : Int) gw gi gb n_).1 + 2)), (vget img l ((ifind (img.length : Int) gw gi gb n_).1 + 3)), (vget img l ((ifind (img.length : Int) gw gi gb n_).1 + 4)), (vget img l ((ifind (img.length : Int) gw gi gb n_).1 + 5)), (vget img l ((ifind (img.length : Int) gw gi gb n_).1 + 6)), (vget img l ((ifind (img.length : Int) gw gi gb n_).1 + 7)), (vget img l ((ifind (img.length : Int) gw gi gb n_).1 + 8)), (vget img l ((ifind (img.length : Int) gw gi gb n_).1 + 9))⟩))) (by kernel_rfl) (fun h143 => ?_) (fun h143 => ?_)
 ·
  have h143p : ¬ (RightP gw gi gb ⟨(vget img l ((ifind (img.length : Int) gw gi gb n_).1 + 0)), (vget img l ((ifind (img.length : Int) gw gi gb n_).1 + 1)), (vget img l ((ifind (img.length : Int) gw gi gb n_).1 + 2)), (vget img l ((ifind (img.length : Int) gw gi gb n_).1 + 3)), (vget img l ((ifind (img.length : Int) gw gi gb n_).1 + 4)), (vget img l ((ifind (img.length : Int) gw gi gb n_).1 + 5)), (vget img l ((ifind (img.length : Int) gw gi gb n_).1 + 6)), (vget img l ((ifind (img.length : Int) gw gi gb n_).1 + 7)), (vget img l ((ifind (img.length : Int) gw gi gb n_).1 + 8)), (vget img l ((ifind (img.length : Int) gw gi gb n_).1 + 9))⟩) := of_decide_eq_false (bnot_true h143)
  refine W.sr fun K144 hK144 => ?_
  refine zR 1 ?_
  have hs147 := St.f2 hs142
  refine zT 0 [(zu 0), (zu 0), (zu 0), (zu 0), (zu 0), (zu 0), (zu 0), (zu 0), (zu 0), (zu 0)] [(zu 0), (zu 0), (zu 0), (zu 0), (zu 0), (zu 0), (zu 0), (zu 0), (zu 0), (zu 0)] hs147 fun w145 hs148 => ?_
  refine zE 1 (hK144 _ _ ?_)
  refine W.ret (ret_seq ?_)
  have e_ : igetM img l gw gi gb n_ = (Nd.zero, 4) := by first | (exfalso; omega) | (simp only [igetM]; rw [if_pos (by assumption)]; exact if_neg (by assumption))
  have hs149 := St.tk0 hs148
  refine ret_of (.tuple #[(.agg #[(zu 0), (zu 0), (zu 0), (zu 0), (zu 0), (zu 0), (zu 0), (zu 0), (zu 0), (zu 0)]), (zi 4)]) (results_cell2 (ad := ⟨b7, 0, none⟩) (cs := [(zu 0), (zu 0), (zu 0), (zu 0), (zu 0), (zu 0), (zu 0), (zu 0), (zu 0), (zu 0)]) rfl (by kernel_rfl) (by kernel_rfl) (by kernel_rfl) (cells_sub (hs148.heapAt 0 rfl) rfl)) ⟨_, ⟨by rw [e_]; try rfl, rfl⟩, hs149⟩
 have h143p : RightP gw gi gb ⟨(vget img l ((ifind (img.length : Int) gw gi gb n_).1 + 0)), (vget img l ((ifind (img.length : Int) gw gi gb n_).1 + 1)), (vget img l ((ifind (img.length : Int) gw gi gb n_).1 + 2)), (vget img l ((ifind (img.length : Int) gw gi gb n_).1 + 3)), (vget img l ((ifind (img.length : Int) gw gi gb n_).1 + 4)), (vget img l ((ifind (img.length : Int) gw gi gb n_).1 + 5)), (vget img l ((ifind (img.length : Int) gw gi gb n_).1 + 6)), (vget img l ((ifind (img.length : Int) gw gi gb n_).1 + 7)), (vget img l ((ifind (img.length : Int) gw gi gb n_).1 + 8)), (vget img l ((ifind (img.length : Int) gw gi gb n_).1 + 9))⟩ := of_decide_eq_true (bnot_false h143)
 refine W.skip ?_
 refine hK138 _ _ ?_
 refine W.sr fun K150 hK150 => ?_
 refine zG ⟨b134, 0, none⟩ [(zu (vget img l ((ifind (img.length : Int) gw gi gb n_).1 + 0))), (zu (vget img l ((ifind (img.length : Int) gw gi gb n_).1 + 1))), (zu (vget img l ((ifind (img.length : Int) gw gi gb n_).1 + 2))), (zu (vget img l ((ifind (img.length : Int) gw gi gb n_).1 + 3))), (zu (vget img l ((ifind (img.length : Int) gw gi gb n_).1 + 4))), (zu (vget img l ((ifind (img.length : Int) gw gi gb n_).1 + 5))), (zu (vget img l ((ifind (img.length : Int) gw gi gb n_).1 + 6))), (zu (vget img l ((ifind (img.length : Int) gw gi gb n_).1 + 7))), (zu (vget img l ((ifind (img.length : Int) gw gi gb n_).1 + 8))), (zu (vget img l ((ifind (img.length : Int) gw gi gb n_).1 + 9)))] (cells_sub (hs142.heapAt 0 rfl) rfl) ?_
 have hs153 := St.f2 hs142
 refine zT 0 [(zu (vget img l ((ifind (img.length : Int) gw gi gb n_).1 + 0))), (zu (vget img l ((ifind (img.length : Int) gw gi gb n_).1 + 1))), (zu (vget img l ((ifind (img.length : Int) gw gi gb n_).1 + 2))), (zu (vget img l ((ifind (img.length : Int) gw gi gb n_).1 + 3))), (zu (vget img l ((ifind (img.length : Int) gw gi gb n_).1 + 4))), (zu (vget img l ((ifind (img.length : Int) gw gi gb n_).1 + 5))), (zu (vget img l ((ifind (img.length : Int) gw gi gb n_).1 + 6))), (zu (vget img l ((ifind (img.length : Int) gw gi gb n_).1 + 7))), (zu (vget img l ((ifind (img.length : Int) gw gi gb n_).1 + 8))), (zu (vget img l ((ifind (img.length : Int) gw gi gb n_).1 + 9)))] [(zu (vget img l ((ifind (img.length : Int) gw gi gb n_).1 + 0))), (zu (vget img l ((ifind (img.length : Int) gw gi gb n_).1 + 1))), (zu (vget img l ((ifind (img.length : Int) gw gi gb n_).1 + 2))), (zu (vget img l ((ifind (img.length : Int) gw gi gb n_).1 + 3))), (zu (vget img l ((ifind (img.length : Int) gw gi gb n_).1 + 4))), (zu (vget img l ((ifind (img.length : Int) gw gi gb n_).1 + 5))), (zu (vget img l ((ifind (img.length : Int) gw gi gb n_).1 + 6))), (zu (vget img l ((ifind (img.length : Int) gw gi gb n_).1 + 7))), (zu (vget img l ((ifind (img.length : Int) gw gi gb n_).1 + 8))), (zu (vget img l ((ifind (img.length : Int) gw gi gb n_).1 + 9)))] hs153 fun w151 hs154 => ?_
 refine zE 1 (hK150 _ _ ?_)
 refine W.ret ?_
 have e_ : igetM img l gw gi gb n_ = (ndAt img l (ifind (img.length : Int) gw gi gb n_).1, 0) := by first | (exfalso; omega) | (simp only [igetM]; rw [if_pos (by assumption)]; exact if_pos (by assumption))
 have hs155 := St.tk0 hs154
 refine ret_of (.tuple #[(.agg #[(zu (vget img l ((ifind (img.length : Int) gw gi gb n_).1 + 0))), (zu (vget img l ((ifind (img.length : Int) gw gi gb n_).1 + 1))), (zu (vget img l ((ifind (img.length : Int) gw gi gb n_).1 + 2))), (zu (vget img l ((ifind (img.length : Int) gw gi gb n_).1 + 3))), (zu (vget img l ((ifind (img.length : Int) gw gi gb n_).1 + 4))), (zu (vget img l ((ifind (img.length : Int) gw gi gb n_).1 + 5))), (zu (vget img l ((ifind (img.length : Int) gw gi gb n_).1 + 6))), (zu (vget img l ((ifind (img.length : Int) gw gi gb n_).1 + 7))), (zu (vget img l ((ifind (img.length : Int) gw gi gb n_).1 + 8))), (zu (vget img l ((ifind (img.length : Int) gw gi gb n_).1 + 9)))]), (zi 0)]) (results_cell2 (ad := ⟨b7, 0, none⟩) (cs := [(zu (vget img l ((ifind (img.length : Int) gw gi gb n_).1 + 0))), (zu (vget img l ((ifind (img.length : Int) gw gi gb n_).1 + 1))), (zu (vget img l ((ifind (img.length : Int) gw gi gb n_).1 + 2))), (zu (vget img l ((ifind (img.length : Int) gw gi gb n_).1 + 3))), (zu (vget img l ((ifind (img.length : Int) gw gi gb n_).1 + 4))), (zu (vget img l ((ifind (img.length : Int) gw gi gb n_).1 + 5))), (zu (vget img l ((ifind (img.length : Int) gw gi gb n_).1 + 6))), (zu (vget img l ((ifind (img.length : Int) gw gi gb n_).1 + 7))), (zu (vget img l ((ifind (img.length : Int) gw gi gb n_).1 + 8))), (zu (vget img l ((ifind (img.length : Int) gw gi gb n_).1 + 9)))]) rfl (by kernel_rfl) (by kernel_rfl) (by kernel_rfl) (cells_sub (hs154.heapAt 0 rfl) rfl)) ⟨_, ⟨by rw [e_]; try rfl, rfl⟩, hs155⟩
end Go.Proofs.Ytmmclabkkigiaaa

set_option maxRecDepth 20000
namespace Go.Proofs.Ytmmclabkkigiaaa
open Go Go.RowKit
theorem blockat_spec {gw gi gb n_ : Int} (B : Nat) (w : World) : Spec Try.prog 84 #[(.agg #[(zi gw), (zi gi), (zi gb)]), (zi n_)] B w [] (fun v H' => v = .int .i64 (placeOf 9 gw gi gb n_) ∧ H' = []) := by
 refine spec_Q Try.func84 rfl fun hs => ?_
 refine W.sr fun K1 hK1 => ?_
 refine zN [(zi gw), (zi gi), (zi gb)] 33 hs fun b4 w2 hs3 => ?_
 refine zE 1 (hK1 _ _ ?_)
 refine W.sr fun K5 hK5 => ?_
 refine zG ⟨b4, 0, none⟩ [(zi gw), (zi gi), (zi gb)] (cells_sub (hs3.heapAt 0 rfl) rfl) ?_
 refine zR 1 ?_
 refine zC00 hs3 (place9_spec (gw := gw) (gi := gi) (gb := gb) (n_ := n_) B _) fun w6 hs8 => ?_
 refine zE 1 (hK5 _ _ ?_)
 refine W.ret ?_
 have hs9 := St.tk0 hs8
 refine ret_of (zi (placeOf 9 gw gi gb n_)) (by kernel_rfl) ⟨_, ⟨rfl, rfl⟩, hs9⟩
end Go.Proofs.Ytmmclabkkigiaaa

namespace Go.Proofs.Ytmmclabkkigiaaa
open Go Go.RowKit
def shlK (k : IntKind) (x y : Int) : Int := k.wrap (x * 2 ^ (min y.toNat k.bits))
def shrK (k : IntKind) (x y : Int) : Int := x.fdiv (2 ^ (min y.toNat k.bits))
section
variable {P : Program} {ops : Array Oper} {i : Nat} {s : Fs} {w : World}
def shQ (ops : Array Oper) (i : Nat) (s : Fs) : Option (Bool × IntKind × Int × Int) :=
  match opQ ops i s with
  | some o => match o.op with
    | .binOp op _ x y _ => match op, evS s x, evS s y with
      | .shl, .int k a, .int _ b => some (true, k, a, b)
      | .shr, .int k a, .int _ b => some (false, k, a, b)
      | _, _, _ => none
    | _ => none
  | none => none
theorem run_guard_none (op : BinOp) (t : TypeId) (x y : Operand) (a b : Value) (h : op = .shl ∨ op = .shr) (w : World) : (eqGuard op t x y a b).run P w = .ok () w := by
  unfold eqGuard
  rcases h with rfl | rfl <;> rfl
theorem runs_shift {b : Bool} {k : IntKind} {x y : Int} (hq : shQ ops i s = some (b, k, x, y)) (hy : 0 ≤ y) : RunsTo P ops i s w (.int k (match b with | true => shlK k x y | false => shrK k x y)) w := by
  unfold shQ at hq
  split at hq
  · rename_i o ho
    split at hq
    · rename_i op t x' y' yt hop
      refine ⟨o, ho, ?_⟩
      split at hq
      · rename_i k1 a1 k2 b1 hx hy'
        cases hq
        simp only [execOp, hop, hx, hy', Sem.run_bind, run_guard_none _ _ _ _ _ _ (.inl rfl), Result.andThen_ok, binOp, Op.shift, if_neg (Int.not_lt.2 hy), Sem.run_pure]
        rfl
      · rename_i k1 a1 k2 b1 hx hy'
        cases hq
        simp only [execOp, hop, hx, hy', Sem.run_bind, run_guard_none _ _ _ _ _ _ (.inr rfl), Result.andThen_ok, binOp, Op.shift, if_neg (Int.not_lt.2 hy), Sem.run_pure]
        rfl
      · cases hq
    · cases hq
  · cases hq
end
end Go.Proofs.Ytmmclabkkigiaaa

set_option maxRecDepth 20000
set_option maxHeartbeats 2000000
namespace Go.Proofs.Ytmmclabkkigiaaa
open Go Go.RowKit
def bown_M (gw : Int) (gi : Int) (gb : Int) (n_ : Int) (w_ : Int) : Option (Int) :=
 (some (placeOf 8 gw gi gb n_)).bind fun r4 =>
need (-9223372036854775808 ≤ (r4 + w_) ∧ (r4 + w_) ≤ 9223372036854775807) <|
some (r4 + w_)
theorem bown_walk {img : List Int} {l : List (Int × Int)} {gw : Int} {gi : Int} {gb : Int} {n_ : Int} {w_ : Int} {mb vb : Nat} {r : Int} (B : Nat) (w : World) (hmb : w.heap[mb]? = some (.cells [(zp vb), (zi gw), (zi gi), (zi gb), (zi n_)].toArray 138 (0, 0))) (hv : ViewAt (ptr vb) img l w) (hm : bown_M gw gi gb n_ w_ = some r) : Spec Try.prog 100 #[(zp mb), (zi w_)] B w [] (fun v H' => v = (zi r) ∧ H' = []) := by
 refine spec_Q Try.func100 rfl fun hs => ?_
 unfold bown_M at hm
 refine W.sr fun K1 hK1 => ?_
 refine zE 1 (hK1 _ _ ?_)
 refine W.seq fun K2 hK2 => ?_
 have hs3 := hs.drew
 refine W.regionD [(0, 0), (1, 1), (2, 2), (4, 4), (0, 0), (16, 16), (32, 32), (64, 64), (136, 136), (0, 0), (768, 768), (2047, 1024)] (fun w_ => St B w [] w_ []) (by kernel_rfl) hs3 ?_
 refine zA (zp mb) 0 hs3 ?_
 refine zA (zp mb) 1 hs3 ?_
 refine zA (.pointer (some ⟨mb, 1, none⟩)) 2 hs3 ?_
 refine any_R 3 (by kernel_rfl) (fun _ hS_ => runs_loadAgg (ad := ⟨mb, 1, none⟩) (cs := [(zi gw), (zi gi), (zi gb)]) (by kernel_rfl) (cells_sub (hS_.old hmb) rfl)) hs3 ?_
 refine zA (zp mb) 4 hs3 ?_
 refine zA (zp mb) 5 hs3 ?_
 refine zA (.pointer (some ⟨mb, 4, none⟩)) 6 hs3 ?_
 refine zB 7 ⟨mb, 4, none⟩ (zi n_) (fun _ hS_ => (cell_of_blk (hS_.old hmb) rfl)) hs3 ?_
 refine zA (zi w_) 9 hs3 ?_
 refine any_step 8 (by kernel_rfl) (by kernel_rfl) ?_
 obtain ⟨r4, h5, hm⟩ := bind_some hm
 replace h5 := some_inj h5
 refine ops_call0 hs3 (by kernel_rfl) (inodeat_spec (gw := gw) (gi := gi) (gb := gb) (n_ := n_) B _) ?_
 rintro _ _ w6 ⟨hv8, hH9⟩ hs7
 rw [h5] at hv8
 try rw [h5] at hH9
 subst hv8 hH9
 have hs10 := St.ap0 hs7
 refine ops_done (by kernel_rfl) ⟨hs10, ?_⟩
 obtain ⟨h11, hm⟩ := need_some hm
 refine any_val (v := .int .i64 (IntKind.i64.wrap (r4 + w_))) (v' := .int .i64 (r4 + w_)) 10 (by kernel_rfl) (fun _ => by kernel_rfl) (congrArg (Value.int .i64) (wrap_i64 h11.1 h11.2)) hs10 ?_
 refine zA (zi (r4 + w_)) 11 hs10 ?_
 refine any_done (by kernel_rfl) ?_
 refine hK2 _ _ ?_
 refine W.ret ?_
 obtain rfl := some_inj hm
 refine ret_of (zi (r4 + w_)) (by kernel_rfl) ⟨_, ⟨rfl, rfl⟩, hs10⟩
end Go.Proofs.Ytmmclabkkigiaaa

set_option maxRecDepth 20000
set_option maxHeartbeats 2000000
namespace Go.Proofs.Ytmmclabkkigiaaa
open Go Go.RowKit
def bchain_M (img : List Int) (l : List (Int × Int)) (gw : Int) (gi : Int) (gb : Int) (n_ : Int) : Option (Int) :=
 (bown_M gw gi gb n_ 8).bind fun r4 =>
need (-9223372036854775808 ≤ (vget img l r4) ∧ (vget img l r4) ≤ 9223372036854775807) <|
some (vget img l r4)
theorem bchain_walk {img : List Int} {l : List (Int × Int)} {gw : Int} {gi : Int} {gb : Int} {n_ : Int} {mb vb : Nat} {r : Int} (B : Nat) (w : World) (hmb : w.heap[mb]? = some (.cells [(zp vb), (zi gw), (zi gi), (zi gb), (zi n_)].toArray 138 (0, 0))) (hv : ViewAt (ptr vb) img l w) (hm : bchain_M img l gw gi gb n_ = some r) : Spec Try.prog 101 #[(zp mb)] B w [] (fun v H' => v = (zi r) ∧ H' = []) := by
 refine spec_Q Try.func101 rfl fun hs => ?_
 unfold bchain_M at hm
 refine W.sr fun K1 hK1 => ?_
 refine zE 1 (hK1 _ _ ?_)
 refine W.seq fun K2 hK2 => ?_
 have hs3 := hs.drew
 refine W.regionD [(0, 0), (1, 1), (2, 2), (4, 4), (0, 0), (16, 16), (40, 40), (64, 64), (255, 128)] (fun w_ => St B w [] w_ []) (by kernel_rfl) hs3 ?_
 refine zA (zp mb) 0 hs3 ?_
 refine zA (zp mb) 1 hs3 ?_
 refine zA (zp mb) 2 hs3 ?_
 refine zB 3 ⟨mb, 0, none⟩ (zp vb) (fun _ hS_ => (cell_of_blk (hS_.old hmb) rfl)) hs3 ?_
 refine zA (zp mb) 4 hs3 ?_
 refine any_step 5 (by kernel_rfl) (by kernel_rfl) ?_
 obtain ⟨r4, h5, hm⟩ := bind_some hm
 refine zC00 hs3 (bown_walk (w_ := 8) (img := img) (l := l) (gw := gw) (gi := gi) (gb := gb) (n_ := n_) (hmb := (hs3.old hmb)) (hv := (viewAt_old hs3 hv)) (hm := h5) B _) fun w6 hs8 => ?_
 refine ops_done (by kernel_rfl) ⟨hs8, ?_⟩
 refine any_step 6 (by kernel_rfl) (by kernel_rfl) ?_
 refine zC00 hs8 (get_spec (at_ := r4) (hv := (viewAt_old hs8 hv)) B _) fun w9 hs11 => ?_
 refine ops_done (by kernel_rfl) ⟨hs11, ?_⟩
 obtain ⟨h12, hm⟩ := need_some hm
 refine any_val (v := .int .i64 (IntKind.i64.wrap (vget img l r4))) (v' := .int .i64 (vget img l r4)) 7 (by kernel_rfl) (fun _ => by kernel_rfl) (congrArg (Value.int .i64) (wrap_i64 h12.1 h12.2)) hs11 ?_
 refine zA (zi (vget img l r4)) 8 hs11 ?_
 refine any_done (by kernel_rfl) ?_
 refine hK2 _ _ ?_
 refine W.ret ?_
 obtain rfl := some_inj hm
 refine ret_of (zi (vget img l r4)) (by kernel_rfl) ⟨_, ⟨rfl, rfl⟩, hs11⟩
def bdirect_M (gw : Int) (gi : Int) (gb : Int) (n_ : Int) (k_ : Int) : Option (Int × Bool) :=
 need (-9223372036854775808 ≤ (4 + k_) ∧ (4 + k_) ≤ 9223372036854775807) <|
(bown_M gw gi gb n_ (4 + k_)).bind fun r4 =>
some (r4, true)
theorem bdirect_walk {img : List Int} {l : List (Int × Int)} {gw : Int} {gi : Int} {gb : Int} {n_ : Int} {k_ : Int} {mb vb : Nat} {r : Int × Bool} (B : Nat) (w : World) (hmb : w.heap[mb]? = some (.cells [(zp vb), (zi gw), (zi gi), (zi gb), (zi n_)].toArray 138 (0, 0))) (hv : ViewAt (ptr vb) img l w) (hm : bdirect_M gw gi gb n_ k_ = some r) : Spec Try.prog 98 #[(zp mb), (zi k_)] B w [] (fun v H' => v = (.tuple #[(zi r.1), (.bool r.2)]) ∧ H' = []) := by
 refine spec_Q Try.func98 rfl fun hs => ?_
 unfold bdirect_M at hm
 refine W.sr fun K1 hK1 => ?_
 refine zE 2 (hK1 _ _ ?_)
 refine W.sr fun K2 hK2 => ?_
 refine zR 2 ?_
 obtain ⟨h3, hm⟩ := need_some hm
 refine zI _ (wrap_i64 h3.1 h3.2) ?_
 obtain ⟨r4, h5, hm⟩ := bind_some hm
 refine zC00 hs (bown_walk (w_ := (4 + k_)) (img := img) (l := l) (gw := gw) (gi := gi) (gb := gb) (n_ := n_) (hmb := (hs.old hmb)) (hv := (viewAt_old hs hv)) (hm := h5) B _) fun w6 hs8 => ?_
 refine zE 2 (hK2 _ _ ?_)
 refine W.ret ?_
 obtain rfl := some_inj hm
 refine ret_of (.tuple #[(zi r4), (.bool true)]) (by kernel_rfl) ⟨_, ⟨rfl, rfl⟩, hs8⟩
end Go.Proofs.Ytmmclabkkigiaaa

set_option maxRecDepth 20000
set_option maxHeartbeats 2000000
namespace Go.Proofs.Ytmmclabkkigiaaa
open Go Go.RowKit
def bchained_M (img : List Int) (l : List (Int × Int)) (gw : Int) (gi : Int) (gb : Int) (n_ : Int) (k_ : Int) : Option (Int × Bool) :=
 (bchain_M img l gw gi gb n_).bind fun r3 =>
need (-9223372036854775808 ≤ ((placeOf 9 gw gi gb r3) + k_) ∧ ((placeOf 9 gw gi gb r3) + k_) ≤ 9223372036854775807) <|
need (-9223372036854775808 ≤ (((placeOf 9 gw gi gb r3) + k_) - 4) ∧ (((placeOf 9 gw gi gb r3) + k_) - 4) ≤ 9223372036854775807) <|
(some (((placeOf 9 gw gi gb r3) + k_) - 4)).bind fun r14 =>
some (r14, !decide (r3 = 0))
theorem bchained_walk {img : List Int} {l : List (Int × Int)} {gw : Int} {gi : Int} {gb : Int} {n_ : Int} {k_ : Int} {mb vb : Nat} {r : Int × Bool} (B : Nat) (w : World) (hmb : w.heap[mb]? = some (.cells [(zp vb), (zi gw), (zi gi), (zi gb), (zi n_)].toArray 138 (0, 0))) (hv : ViewAt (ptr vb) img l w) (hm : bchained_M img l gw gi gb n_ k_ = some r) : Spec Try.prog 99 #[(zp mb), (zi k_)] B w [] (fun v H' => v = (.tuple #[(zi r.1), (.bool r.2)]) ∧ H' = []) := by
 refine spec_Q Try.func99 rfl fun hs => ?_
 unfold bchained_M at hm
 refine W.sr fun K1 hK1 => ?_
 refine zE 2 (hK1 _ _ ?_)
 refine W.sr fun K2 hK2 => ?_
 refine zR 1 ?_
 obtain ⟨r3, h4, hm⟩ := bind_some hm
 refine zC00 hs (bchain_walk (img := img) (l := l) (gw := gw) (gi := gi) (gb := gb) (n_ := n_) (hmb := (hs.old hmb)) (hv := (viewAt_old hs hv)) (hm := h4) B _) fun w5 hs7 => ?_
 refine zE 1 (hK2 _ _ ?_)
 refine W.sr fun K8 hK8 => ?_
 refine zR 3 ?_
 refine zG ⟨mb, 1, none⟩ [(zi gw), (zi gi), (zi gb)] (cells_sub (hs7.old hmb) rfl) ?_
 refine zR 1 ?_
 refine zC00 hs7 (blockat_spec (gw := gw) (gi := gi) (gb := gb) (n_ := r3) B _) fun w9 hs11 => ?_
 refine zR 1 ?_
 obtain ⟨h12, hm⟩ := need_some hm
 refine zI _ (wrap_i64 h12.1 h12.2) ?_
 obtain ⟨h13, hm⟩ := need_some hm
 refine zI _ (wrap_i64 h13.1 h13.2) ?_
 refine zR 3 ?_
 obtain ⟨r14, h15, hm⟩ := bind_some hm
 replace h15 := some_inj h15
 refine ops_set 4 (v := .int .i64 r14) (Eq.trans (by kernel_rfl) (congrArg (Value.int .i64) h15)) ?_
 refine zE 1 (hK8 _ _ ?_)
 refine W.ret ?_
 obtain rfl := some_inj hm
 refine ret_of (.tuple #[(zi r14), (.bool (!decide (r3 = 0)))]) (by kernel_rfl) ⟨_, ⟨rfl, rfl⟩, hs11⟩
end Go.Proofs.Ytmmclabkkigiaaa

set_option maxRecDepth 20000
set_option maxHeartbeats 2000000
namespace Go.Proofs.Ytmmclabkkigiaaa
open Go Go.RowKit
def bword_M (img : List Int) (l : List (Int × Int)) (gw : Int) (gi : Int) (gb : Int) (n_ : Int) (k_ : Int) : Option (Int × Bool) :=
 if k_ ≥ 4 then ((bchained_M img l gw gi gb n_ k_).bind fun r7 =>
some (r7.1, r7.2)) else ((bdirect_M gw gi gb n_ k_).bind fun r13 =>
some (r13.1, r13.2))
theorem bword_walk {img : List Int} {l : List (Int × Int)} {gw : Int} {gi : Int} {gb : Int} {n_ : Int} {k_ : Int} {mb vb : Nat} {r : Int × Bool} (B : Nat) (w : World) (hmb : w.heap[mb]? = some (.cells [(zp vb), (zi gw), (zi gi), (zi gb), (zi n_)].toArray 138 (0, 0))) (hv : ViewAt (ptr vb) img l w) (hm : bword_M img l gw gi gb n_ k_ = some r) : Spec Try.prog 94 #[(zp mb), (zi k_)] B w [] (fun v H' => v = (.tuple #[(zi r.1), (.bool r.2)]) ∧ H' = []) := by
 refine spec_Q Try.func94 rfl fun hs => ?_
 unfold bword_M at hm
 refine W.sr fun K1 hK1 => ?_
 refine zE 2 (hK1 _ _ ?_)
 refine W.sr fun K2 hK2 => ?_
 refine zE 3 (hK2 _ _ ?_)
 refine W.seq fun K3 hK3 => ?_
 refine W.sr fun K4 hK4 => ?_
 refine zE 2 (hK4 _ _ ?_)
 refine W.cond (decide (k_ ≥ 4)) (by kernel_rfl) (fun h5 => ?_) (fun h5 => ?_)
 ·
  obtain ⟨h5p, hm⟩ := iY hm h5
  refine W.region ?_
  refine zE 3 (hK3 _ _ ?_)
  refine W.sr fun K6 hK6 => ?_
  refine zR 2 ?_
  obtain ⟨r7, h8, hm⟩ := bind_some hm
  refine zC00 hs (bchained_walk (k_ := k_) (img := img) (l := l) (gw := gw) (gi := gi) (gb := gb) (n_ := n_) (hmb := (hs.old hmb)) (hv := (viewAt_old hs hv)) (hm := h8) B _) fun w9 hs11 => ?_
  refine zE 4 (hK6 _ _ ?_)
  refine W.ret ?_
  obtain rfl := some_inj hm
  refine ret_of (.tuple #[(zi r7.1), (.bool r7.2)]) (by kernel_rfl) ⟨_, ⟨rfl, rfl⟩, hs11⟩
 obtain ⟨h5p, hm⟩ := iN hm h5
 refine W.skip ?_
 refine hK3 _ _ ?_
 refine W.sr fun K12 hK12 => ?_
 refine zR 2 ?_
 obtain ⟨r13, h14, hm⟩ := bind_some hm
 refine zC00 hs (bdirect_walk (k_ := k_) (img := img) (l := l) (gw := gw) (gi := gi) (gb := gb) (n_ := n_) (hmb := (hs.old hmb)) (hv := (viewAt_old hs hv)) (hm := h14) B _) fun w15 hs17 => ?_
 refine zE 4 (hK12 _ _ ?_)
 refine W.ret ?_
 obtain rfl := some_inj hm
 refine ret_of (.tuple #[(zi r13.1), (.bool r13.2)]) (by kernel_rfl) ⟨_, ⟨rfl, rfl⟩, hs17⟩
end Go.Proofs.Ytmmclabkkigiaaa

set_option maxRecDepth 20000
set_option maxHeartbeats 2000000
namespace Go.Proofs.Ytmmclabkkigiaaa
open Go Go.RowKit
def bat_J2 (img : List Int) (l : List (Int × Int)) (gw : Int) (gi : Int) (gb : Int) (n_ : Int) (k_ : Int) (p5 : Int) : Option (Int × Int) :=
 if p5 = 0 then ((bword_M img l gw gi gb n_ k_).bind fun r11 =>
if r11.2 = true then (need (0 ≤ gb ∧ gb ≤ 18446744073709551615) <|
if (vget img l r11.1) ≥ gb then (some (0, 4)) else (need (-9223372036854775808 ≤ (vget img l r11.1) ∧ (vget img l r11.1) ≤ 9223372036854775807) <|
some ((vget img l r11.1), 0))) else (some (0, 0))) else (some (0, p5))
def bat_J1 (img : List Int) (l : List (Int × Int)) (gw : Int) (gi : Int) (gb : Int) (n_ : Int) (k_ : Int) : Option (Int × Int) :=
 (some (igetM img l gw gi gb n_)).bind fun r33 =>
bat_J2 img l gw gi gb n_ k_ r33.2
def bat_M (img : List Int) (l : List (Int × Int)) (gw : Int) (gi : Int) (gb : Int) (n_ : Int) (k_ : Int) : Option (Int × Int) :=
 if k_ < 0 then (if k_ < 0 then (some (0, 1)) else (bat_J1 img l gw gi gb n_ k_)) else (if k_ ≥ 12 then (some (0, 1)) else (bat_J1 img l gw gi gb n_ k_))
theorem bat_walk {img : List Int} {l : List (Int × Int)} {gw : Int} {gi : Int} {gb : Int} {n_ : Int} {k_ : Int} {mb vb : Nat} {r : Int × Int} (B : Nat) (w : World) (hmb : w.heap[mb]? = some (.cells [(zp vb), (zi gw), (zi gi), (zi gb), (zi n_)].toArray 138 (0, 0))) (hv : ViewAt (ptr vb) img l w) (hm : bat_M img l gw gi gb n_ k_ = some r) : Spec Try.prog 83 #[(zp mb), (zi k_)] B w [] (fun v H' => v = (.tuple #[(zi r.1), (zi r.2)]) ∧ H' = []) := by
 refine spec_Q Try.func83 rfl fun hs => ?_
 unfold bat_M at hm
 refine W.sr fun K1 hK1 => ?_
 refine zE 2 (hK1 _ _ ?_)
 refine W.seq_join (fun s_ w_ => (∃ us, s_ = slots 62 [(0, (zp mb)), (1, (zi k_))] us) ∧ St B w [] w_ [] ∧ bat_J1 img l gw gi gb n_ k_ = some r) ?_ ?_
 ·
  rintro _ w2 ⟨⟨us, rfl⟩, hs3, hm⟩
  unfold bat_J1 at hm
  refine W.seq fun K4 hK4 => ?_
  refine W.seq_join (fun s_ w_ => ∃ (p5 : Int), (∃ us, s_ = slots 62 [(0, (zp mb)), (1, (zi k_)), (7, (zi p5))] us) ∧ St B w [] w_ [] ∧ bat_J2 img l gw gi gb n_ k_ p5 = some r) ?_ ?_
  ·
   rintro _ w6 ⟨p5, ⟨us, rfl⟩, hs7, hm⟩
   unfold bat_J2 at hm
   refine W.sr fun K8 hK8 => ?_
   refine zE 2 (hK8 _ _ ?_)
   refine W.cond (!decide (p5 = 0)) (by kernel_rfl) (fun h9 => ?_) (fun h9 => ?_)
   rotate_left
   ·
    have h9p : p5 = 0 := of_decide_eq_true (bnot_false h9)
    replace hm := ite_yes hm h9p
    refine W.skip ?_
    refine hK4 _ _ ?_
    refine W.sr fun K10 hK10 => ?_
    refine zR 2 ?_
    obtain ⟨r11, h12, hm⟩ := bind_some hm
    refine zC00 hs7 (bword_walk (k_ := k_) (img := img) (l := l) (gw := gw) (gi := gi) (gb := gb) (n_ := n_) (hmb := (hs7.old hmb)) (hv := (viewAt_old hs7 hv)) (hm := h12) B _) fun w13 hs15 => ?_
    refine zE 5 (hK10 _ _ ?_)
    refine W.seq fun K16 hK16 => ?_
    refine W.sr fun K17 hK17 => ?_
    refine zE 2 (hK17 _ _ ?_)
    refine W.cond (!r11.2) (by kernel_rfl) (fun h18 => ?_) (fun h18 => ?_)
    rotate_left
    ·
     have h18p : r11.2 = true := (bnot_false h18)
     replace hm := ite_yes hm h18p
     refine W.skip ?_
     refine hK16 _ _ ?_
     refine W.sr fun K19 hK19 => ?_
     refine zR 3 ?_
     refine zL ⟨mb, 0, none⟩ (zp vb) (cell_of_blk (hs15.old hmb) rfl) ?_
     refine zR 1 ?_
     refine zC00 hs15 (get_spec (at_ := r11.1) (hv := (viewAt_old hs15 hv)) B _) fun w20 hs22 => ?_
     refine zE 1 (hK19 _ _ ?_)
     refine W.seq fun K23 hK23 => ?_
     refine W.sr fun K24 hK24 => ?_
     refine zR 5 ?_
     refine zL ⟨mb, 3, none⟩ (zi gb) (cell_of_blk (hs22.old hmb) rfl) ?_
     obtain ⟨h25, hm⟩ := need_some hm
     refine zI _ (wrap_u64 h25.1 (Int.lt_of_le_of_lt h25.2 (by decide))) ?_
     refine zE 1 (hK24 _ _ ?_)
     refine W.cond (decide ((vget img l r11.1) ≥ gb)) (by kernel_rfl) (fun h26 => ?_) (fun h26 => ?_)
     ·
      obtain ⟨h26p, hm⟩ := iY hm h26
      refine W.sr fun K27 hK27 => ?_
      refine zE 2 (hK27 _ _ ?_)
      refine W.ret (ret_seq ?_)
      obtain rfl := some_inj hm
      refine ret_of (.tuple #[(zi 0), (zi 4)]) (by kernel_rfl) ⟨_, ⟨rfl, rfl⟩, hs22⟩
     obtain ⟨h26p, hm⟩ := iN hm h26
     refine W.skip ?_
     refine hK23 _ _ ?_
     refine W.sr fun K28 hK28 => ?_
     refine zR 1 ?_
     obtain ⟨h29, hm⟩ := need_some hm
     refine zI _ (wrap_i64 h29.1 h29.2) ?_
     refine zE 2 (hK28 _ _ ?_)
     refine W.ret ?_
     obtain rfl := some_inj hm
     refine ret_of (.tuple #[(zi (vget img l r11.1)), (zi 0)]) (by kernel_rfl) ⟨_, ⟨rfl, rfl⟩, hs22⟩
    have h18p : ¬ (r11.2 = true) := ne_true_of_eq_false (bnot_true h18)
    replace hm := ite_no hm h18p
    refine W.sr fun K30 hK30 => ?_
    refine zE 2 (hK30 _ _ ?_)
    refine W.ret (ret_seq ?_)
    obtain rfl := some_inj hm
    refine ret_of (.tuple #[(zi 0), (zi 0)]) (by kernel_rfl) ⟨_, ⟨rfl, rfl⟩, hs15⟩
   have h9p : ¬ (p5 = 0) := of_decide_eq_false (bnot_true h9)
   replace hm := ite_no hm h9p
   refine W.sr fun K31 hK31 => ?_
   refine zE 3 (hK31 _ _ ?_)
   refine W.ret (ret_seq ?_)
   obtain rfl := some_inj hm
   refine ret_of (.tuple #[(zi 0), (zi p5)]) (by kernel_rfl) ⟨_, ⟨rfl, rfl⟩, hs7⟩
  have hs32 := hs3.drew
  refine W.regionD [(0, 0), (1, 1), (2, 2), (4, 4), (0, 0), (16, 16), (32, 32), (64, 64), (0, 0), (256, 256), (512, 512), (1024, 1024), (2184, 2184), (4096, 4096), (8192, 8192), (8192, 8192), (0, 0), (98303, 81920), (262143, 32768)] (fun w_ => St B w [] w_ []) (by kernel_rfl) hs32 ?_
  refine zA (zp mb) 0 hs32 ?_
  refine zA (zp mb) 1 hs32 ?_
  refine zA (zp mb) 2 hs32 ?_
  refine zB 3 ⟨mb, 0, none⟩ (zp vb) (fun _ hS_ => (cell_of_blk (hS_.old hmb) rfl)) hs32 ?_
  refine zA (zp mb) 4 hs32 ?_
  refine zA (zp mb) 5 hs32 ?_
  refine zA (.pointer (some ⟨mb, 1, none⟩)) 6 hs32 ?_
  refine any_R 7 (by kernel_rfl) (fun _ hS_ => runs_loadAgg (ad := ⟨mb, 1, none⟩) (cs := [(zi gw), (zi gi), (zi gb)]) (by kernel_rfl) (cells_sub (hS_.old hmb) rfl)) hs32 ?_
  refine zA (zp mb) 8 hs32 ?_
  refine zA (zp mb) 9 hs32 ?_
  refine zA (.pointer (some ⟨mb, 4, none⟩)) 10 hs32 ?_
  refine zB 11 ⟨mb, 4, none⟩ (zi n_) (fun _ hS_ => (cell_of_blk (hS_.old hmb) rfl)) hs32 ?_
  refine any_step2 12 16 (by kernel_rfl) (by kernel_rfl) (by kernel_rfl) ?_ ?_
  ·
   obtain ⟨r33, h34, hm⟩ := bind_some hm
   replace h34 := some_inj h34
   refine ops_call0 hs32 (by kernel_rfl) (ig_spec (gw := gw) (gi := gi) (gb := gb) (n_ := n_) (hv := (viewAt_old hs32 hv)) B _) ?_
   rintro _ _ w35 ⟨hv37, hH38⟩ hs36
   rw [h34] at hv37
   try rw [h34] at hH38
   subst hv37 hH38
   have hs39 := St.ap0 hs36
   refine ops_done (by kernel_rfl) ⟨hs39, ?_⟩
   refine zA (.tuple #[(.agg #[(zu r33.1.k), (zu r33.1.l), (zu r33.1.o), (zu r33.1.s), (zu r33.1.a), (zu r33.1.b), (zu r33.1.c), (zu r33.1.d), (zu r33.1.e), (zu r33.1.m)]), (zi r33.2)]) 13 hs39 ?_
   refine zA (.agg #[(zu r33.1.k), (zu r33.1.l), (zu r33.1.o), (zu r33.1.s), (zu r33.1.a), (zu r33.1.b), (zu r33.1.c), (zu r33.1.d), (zu r33.1.e), (zu r33.1.m)]) 14 hs39 ?_
   refine zA (zi r33.2) 15 hs39 ?_
   refine any_step 16 (by kernel_rfl) (by kernel_rfl) ?_
   refine zN [(zu 0), (zu 0), (zu 0), (zu 0), (zu 0), (zu 0), (zu 0), (zu 0), (zu 0), (zu 0)] 61 hs39 fun b42 w40 hs41 => ?_
   have hs43 := St.tk0 hs41
   refine ops_done (by kernel_rfl) ⟨hs43, ?_⟩
   refine any_step 17 (by kernel_rfl) (by kernel_rfl) ?_
   refine zT 0 [(zu r33.1.k), (zu r33.1.l), (zu r33.1.o), (zu r33.1.s), (zu r33.1.a), (zu r33.1.b), (zu r33.1.c), (zu r33.1.d), (zu r33.1.e), (zu r33.1.m)] [(zu r33.1.k), (zu r33.1.l), (zu r33.1.o), (zu r33.1.s), (zu r33.1.a), (zu r33.1.b), (zu r33.1.c), (zu r33.1.d), (zu r33.1.e), (zu r33.1.m)] hs41 fun w44 hs46 => ?_
   have hs47 := St.tk0 hs46
   refine ops_done (by kernel_rfl) ⟨hs47, ?_⟩
   refine zA (zi r33.2) 18 hs47 ?_
   refine any_done (by kernel_rfl) ?_
   have hs48 := St.tk0 hs46
   exact ⟨r33.2, slots_intro _ (by kernel_rfl), hs48, hm⟩
  refine zN [(zu 0), (zu 0), (zu 0), (zu 0), (zu 0), (zu 0), (zu 0), (zu 0), (zu 0), (zu 0)] 61 hs32 fun b51 w49 hs50 => ?_
  have hs52 := St.tk0 hs50
  refine ops_done (by kernel_rfl) ⟨hs52, ?_⟩
  refine any_step 12 (by kernel_rfl) (by kernel_rfl) ?_
  obtain ⟨r53, h54, hm⟩ := bind_some hm
  replace h54 := some_inj h54
  refine ops_call0 hs50 (by kernel_rfl) (ig_spec (gw := gw) (gi := gi) (gb := gb) (n_ := n_) (hv := (viewAt_old hs50 hv)) B _) ?_
  rintro _ _ w55 ⟨hv57, hH58⟩ hs56
  rw [h54] at hv57
  try rw [h54] at hH58
  subst hv57 hH58
  have hs59 := St.ap0 hs56
  have hs60 := St.tk0 hs59
  refine ops_done (by kernel_rfl) ⟨hs60, ?_⟩
  refine zA (.tuple #[(.agg #[(zu r53.1.k), (zu r53.1.l), (zu r53.1.o), (zu r53.1.s), (zu r53.1.a), (zu r53.1.b), (zu r53.1.c), (zu r53.1.d), (zu r53.1.e), (zu r53.1.m)]), (zi r53.2)]) 13 hs60 ?_
  refine zA (.agg #[(zu r53.1.k), (zu r53.1.l), (zu r53.1.o), (zu r53.1.s), (zu r53.1.a), (zu r53.1.b), (zu r53.1.c), (zu r53.1.d), (zu r53.1.e), (zu r53.1.m)]) 14 hs60 ?_
  refine zA (zi r53.2) 15 hs60 ?_
  refine any_step 17 (by kernel_rfl) (by kernel_rfl) ?_
  refine zT 0 [(zu r53.1.k), (zu r53.1.l), (zu r53.1.o), (zu r53.1.s), (zu r53.1.a), (zu r53.1.b), (zu r53.1.c), (zu r53.1.d), (zu r53.1.e), (zu r53.1.m)] [(zu r53.1.k), (zu r53.1.l), (zu r53.1.o), (zu r53.1.s), (zu r53.1.a), (zu r53.1.b), (zu r53.1.c), (zu r53.1.d), (zu r53.1.e), (zu r53.1.m)] hs59 fun w61 hs63 => ?_
  have hs64 := St.tk0 hs63
  refine ops_done (by kernel_rfl) ⟨hs64, ?_⟩
  refine zA (zi r53.2) 18 hs64 ?_
  refine any_done (by kernel_rfl) ?_
  have hs65 := St.tk0 hs63
  exact ⟨r53.2, slots_intro _ (by kernel_rfl), hs65, hm⟩
 refine W.block ?_
 refine W.sr fun K66 hK66 => ?_
 refine zE 3 (hK66 _ _ ?_)
 refine W.cond_false false (by kernel_rfl) rfl ?_
 refine W.seq fun K67 hK67 => ?_
 refine W.sr fun K68 hK68 => ?_
 refine zE 3 (hK68 _ _ ?_)
 refine W.cond (decide (k_ < 0)) (by kernel_rfl) (fun h69 => ?_) (fun h69 => ?_)
 ·
  obtain ⟨h69p, hm⟩ := iY hm h69
  refine W.skip ?_
  refine hK67 _ _ ?_
  refine W.cond (decide (k_ < 0)) (by kernel_rfl) (fun h70 => ?_) (fun h70 => ?_)
  ·
   obtain ⟨h70p, hm⟩ := iY hm h70
   refine W.sr fun K71 hK71 => ?_
   refine zE 2 (hK71 _ _ ?_)
   refine W.ret (ret_block (ret_seq ?_))
   obtain rfl := some_inj hm
   refine ret_of (.tuple #[(zi 0), (zi 1)]) (by kernel_rfl) ⟨_, ⟨rfl, rfl⟩, hs⟩
  obtain ⟨h70p, hm⟩ := iN hm h70
  refine W.skip ?_
  refine normal_block ?_
  exact ⟨slots_intro _ (by kernel_rfl), hs, hm⟩
 obtain ⟨h69p, hm⟩ := iN hm h69
 refine W.region ?_
 refine zE 3 (hK67 _ _ ?_)
 refine W.cond (decide (k_ ≥ 12)) (by kernel_rfl) (fun h72 => ?_) (fun h72 => ?_)
 ·
  obtain ⟨h72p, hm⟩ := iY hm h72
  refine W.sr fun K73 hK73 => ?_
  refine zE 2 (hK73 _ _ ?_)
  refine W.ret (ret_block (ret_seq ?_))
  obtain rfl := some_inj hm
  refine ret_of (.tuple #[(zi 0), (zi 1)]) (by kernel_rfl) ⟨_, ⟨rfl, rfl⟩, hs⟩
 obtain ⟨h72p, hm⟩ := iN hm h72
 refine W.skip ?_
 refine normal_block ?_
 exact ⟨slots_intro _ (by kernel_rfl), hs, hm⟩
end Go.Proofs.Ytmmclabkkigiaaa

set_option maxRecDepth 20000
set_option maxHeartbeats 1000000
namespace Go.Proofs.Ytmmclabkkigiaaa
open Go Go.RowKit
def unpack_B0 (ws : List Int) (n_ : Int) (k18 : ((List Int) × Int) → Option (ByteArray × Int)) (q16 : List Int) (p17 : Int) : Option (ByteArray × Int) :=
 if p17 < (n_.toNat : Int) then (need (-9223372036854775808 ≤ (p17.tdiv 8) ∧ (p17.tdiv 8) ≤ 9223372036854775807) <|
need (0 ≤ (p17.tdiv 8) ∧ (p17.tdiv 8) < (ws.length : Int)) <|
need (-9223372036854775808 ≤ (8 * p17.tmod 8) ∧ (8 * p17.tmod 8) ≤ 9223372036854775807) <|
need (0 ≤ (8 * p17.tmod 8)) <|
need (0 ≤ p17 ∧ p17 < (n_.toNat : Int)) <|
need (p17.toNat < q16.length) <|
need (-9223372036854775808 ≤ (p17 + 1) ∧ (p17 + 1) ≤ 9223372036854775807) <|
k18 ((q16.set p17.toNat ((shrK .u64 (ws.getD ((p17.tdiv 8).toNat) 0) (8 * p17.tmod 8)) % 256)), (p17 + 1))) else (need (n_.toNat = q16.length) <|
some ((strOfNums q16), 0))
def unpack_M (ws : List Int) (n_ : Int) : Option (ByteArray × Int) :=
 if n_ < 0 then (some (ByteArray.empty, 1)) else (need (-9223372036854775808 ≤ (8 * (ws.length : Int)) ∧ (8 * (ws.length : Int)) ≤ 9223372036854775807) <|
if n_ > (8 * (ws.length : Int)) then (some (ByteArray.empty, 1)) else (need (n_ ≤ 1000000000) <|
iter (fun k_ s_ => unpack_B0 ws n_ k_ s_.1 s_.2) FUEL ((List.replicate n_.toNat (0 : Int)), 0)))
theorem unpack_walk {ws : List Int} {n_ : Int} {wa : Option Addr} {wc : Nat} {r : ByteArray × Int} (B : Nat) (w : World) (hw : CellsAt wa (kU64.cells ws) w) (hm : unpack_M ws n_ = some r) : Spec Try.prog 85 #[(.slice wa ws.length wc), (zi n_)] B w [] (fun v H' => v = .tuple #[.string r.1, .int .i64 r.2] ∧ H' = []) := by
 refine spec_Q Try.func85 rfl fun hs => ?_
 unfold unpack_M at hm
 refine W.sr fun K1 hK1 => ?_
 refine zE 2 (hK1 _ _ ?_)
 refine W.seq fun K2 hK2 => ?_
 refine W.sr fun K3 hK3 => ?_
 refine zR 3 ?_
 rcases Bool.eq_false_or_eq_true (decide (n_ < 0)) with h4 | h4
 ·
  obtain ⟨h4p, hm⟩ := iY hm h4
  refine zS 10 h4 ?_
  refine zS 9 h4 ?_
  refine zE 6 (hK3 _ _ ?_)
  refine W.cond_true true (by kernel_rfl) rfl ?_
  refine W.sr fun K5 hK5 => ?_
  refine zE 2 (hK5 _ _ ?_)
  refine W.ret (ret_seq ?_)
  obtain rfl := some_inj hm
  refine ret_of (.tuple #[(.string ByteArray.empty), (zi 1)]) (by kernel_rfl) ⟨_, ⟨rfl, rfl⟩, hs⟩
 obtain ⟨h4p, hm⟩ := iN hm h4
 refine zS 10 h4 ?_
 refine zS 9 h4 ?_
 refine zR 3 ?_
 obtain ⟨h6, hm⟩ := need_some hm
 refine zI _ (wrap_i64 h6.1 h6.2) ?_
 refine zE 2 (hK3 _ _ ?_)
 refine W.cond (decide (n_ > (8 * (ws.length : Int)))) (by kernel_rfl) (fun h7 => ?_) (fun h7 => ?_)
 ·
  obtain ⟨h7p, hm⟩ := iY hm h7
  refine W.sr fun K8 hK8 => ?_
  refine zE 2 (hK8 _ _ ?_)
  refine W.ret (ret_seq ?_)
  obtain rfl := some_inj hm
  refine ret_of (.tuple #[(.string ByteArray.empty), (zi 1)]) (by kernel_rfl) ⟨_, ⟨rfl, rfl⟩, hs⟩
 obtain ⟨h7p, hm⟩ := iN hm h7
 refine W.skip ?_
 refine hK2 _ _ ?_
 refine W.sr fun K9 hK9 => ?_
 refine zR 1 ?_
 obtain ⟨h13, hm⟩ := need_some hm
 refine ops_makeSlice kU8 0 (z := n_) (bytes := 1) n_.toNat (nat_of (by omega)) hs (by kernel_rfl) (by omega) (by unfold maxLen; omega) (fun b10 w11 hs12 => ?_)
 refine zE 1 (hK9 _ _ ?_)
 refine W.seq fun K14 hK14 => ?_
 refine W.sr fun K15 hK15 => ?_
 refine zE 3 (hK15 _ _ ?_)
 refine W.block ?_
 refine W.loop_iter (G := (List Int) × Int) (σ := (List Int) × Int) (fun | (q16, p17) => (q16, p17)) (fun | (q16, p17), s_, w_ => (∃ us, s_ = slots 40 [(0, (.slice wa ws.length wc)), (6, (.slice (some ⟨b10, 0, none⟩) n_.toNat n_.toNat)), (20, (zi (n_.toNat : Int))), (21, (zi p17))] us) ∧ St B w [] w_ [kU8.row (some ⟨b10, 0, none⟩) n_.toNat q16]) ((List.replicate n_.toNat (0 : Int)), 0) ⟨slots_intro _ (by kernel_rfl), hs12⟩ hm ?_
 rintro k18 ih19 ⟨q16, p17⟩ _ w20 ⟨⟨us, rfl⟩, hs21⟩ hm
 replace hm : unpack_B0 ws n_ k18 q16 p17 = some r := hm
 unfold unpack_B0 at hm
 refine W.sr fun K22 hK22 => ?_
 refine zE 1 (hK22 _ _ ?_)
 refine W.seq fun K23 hK23 => ?_
 refine W.cond (decide (p17 < (n_.toNat : Int))) (by kernel_rfl) (fun h24 => ?_) (fun h24 => ?_)
 ·
  obtain ⟨h24p, hm⟩ := iY hm h24
  refine W.skip ?_
  refine hK23 _ _ ?_
  refine W.seq fun K25 hK25 => ?_
  refine W.block ?_
  refine W.sr fun K26 hK26 => ?_
  refine zE 2 (hK26 _ _ ?_)
  refine W.region ?_
  refine zR 4 ?_
  obtain ⟨h27, hm⟩ := need_some hm
  refine ops_R (v := .int .i64 (p17.tdiv 8)) (runs_quo (k := .i64) (a := p17) (b := 8) (by kernel_rfl) (by decide) (wrap_i64 h27.1 h27.2)) ?_
  obtain ⟨h29, hm⟩ := need_some hm
  have hk28 := lt_toNat h29
  refine ops_R (runs_index (a := wa) (n := ws.length) (z := (p17.tdiv 8)) (size := 1) ((p17.tdiv 8).toNat) (nat_of h29.1) hk28 (kU64.addr (hs21.oldCells hw) hk28) (by kernel_rfl)) ?_
  refine zL ((adr wa (((p17.tdiv 8).toNat) * 1)).add 0) (zu (ws.getD ((p17.tdiv 8).toNat) 0)) (kU64.at (hs21.oldCells hw) hk28 0 0 rfl) ?_
  refine zR 2 ?_
  obtain ⟨h30, hm⟩ := need_some hm
  refine zI _ (wrap_i64 h30.1 h30.2) ?_
  obtain ⟨h31, hm⟩ := need_some hm
  refine ops_R (v := .int .u64 (shrK .u64 (ws.getD ((p17.tdiv 8).toNat) 0) (8 * p17.tmod 8))) (runs_shift (b := false) (k := .u64) (x := (ws.getD ((p17.tdiv 8).toNat) 0)) (y := (8 * p17.tmod 8)) (by kernel_rfl) h31) ?_
  refine ops_val (v := .int .u8 (IntKind.u8.wrap (shrK .u64 (ws.getD ((p17.tdiv 8).toNat) 0) (8 * p17.tmod 8)))) (v' := .int .u8 ((shrK .u64 (ws.getD ((p17.tdiv 8).toNat) 0) (8 * p17.tmod 8)) % 256)) (by kernel_rfl) (congrArg (Value.int .u8) (wrap_u8_mod _)) ?_
  obtain ⟨h33, hm⟩ := need_some hm
  have hk32 := lt_toNat h33
  obtain ⟨h35, hm⟩ := need_some hm
  have hk34 := h35
  refine ops_R (runs_index (a := (some ⟨b10, 0, none⟩)) (n := n_.toNat) (z := p17) (size := 1) p17.toNat (nat_of h33.1) hk32 (kU8.addr (St.kcells kU8 hs21 0 rfl) hk34) (by kernel_rfl)) ?_
  refine ops_storeK kU8 (j := 0) (vs := [(.int .u8 ((shrK .u64 (ws.getD ((p17.tdiv 8).toNat) 0) (8 * p17.tmod 8)) % 256))]) 0 ((shrK .u64 (ws.getD ((p17.tdiv 8).toNat) 0) (8 * p17.tmod 8)) % 256) hs21 hk34 (Nat.le_of_ble_eq_true rfl) (by simp) rfl rfl (by kernel_rfl) (fun w36 hs37 => ?_)
  refine zD ?_
  refine normal_block ?_
  refine hK25 _ _ ?_
  refine W.region ?_
  obtain ⟨h39, hm⟩ := need_some hm
  refine zI _ (wrap_i64 h39.1 h39.2) ?_
  refine zE 1 ?_
  refine loopAt_next ?_
  exact ih19 ((q16.set p17.toNat ((shrK .u64 (ws.getD ((p17.tdiv 8).toNat) 0) (8 * p17.tmod 8)) % 256)), (p17 + 1)) _ _ ⟨slots_intro _ (by kernel_rfl), hs37⟩ hm
 obtain ⟨h24p, hm⟩ := iN hm h24
 refine W.exit (exit_seq (exit_seq (exit_here ?_)))
 refine hK14 _ _ ?_
 refine W.sr fun K40 hK40 => ?_
 refine zR 1 ?_
 obtain ⟨h41, hm⟩ := need_some hm
 refine ops_R (runs_bytesStr (a := (some ⟨b10, 0, none⟩)) (n := n_.toNat) (c := n_.toNat) (xs := q16) (St.kcells kU8 hs21 0 rfl) h41 (by kernel_rfl)) ?_
 refine zE 2 (hK40 _ _ ?_)
 refine W.ret ?_
 obtain rfl := some_inj hm
 have hs42 := St.tk0 hs21
 refine ret_of (.tuple #[(.string (strOfNums q16)), (zi 0)]) (by kernel_rfl) ⟨_, ⟨rfl, rfl⟩, hs42⟩
end Go.Proofs.Ytmmclabkkigiaaa

set_option maxRecDepth 20000
set_option maxHeartbeats 8000000
namespace Go.Proofs.Ytmmclabkkigiaaa
open Go Go.RowKit
def tentry_J4 (img : List Int) (l : List (Int × Int)) (r31 : Int) (r63 : ByteArray × Int) (p69 : Bool) : Option (ByteArray × Int × Int) :=
 if p69 = true then (some (ByteArray.empty, 0, 4)) else (need (-9223372036854775808 ≤ (vget img l r31) ∧ (vget img l r31) ≤ 9223372036854775807) <|
some (r63.1, (vget img l r31), 0))
def tentry_J3 (img : List Int) (l : List (Int × Int)) (r31 : Int) (q58 : List Int) : Option (ByteArray × Int × Int) :=
 need (-9223372036854775808 ≤ (vget img l (r31 + 1)) ∧ (vget img l (r31 + 1)) ≤ 9223372036854775807) <|
(unpack_M q58 (vget img l (r31 + 1))).bind fun r63 =>
if r63.2 = 0 then ((emay_M r63.1).bind fun r89 =>
tentry_J4 img l r31 r63 (!r89)) else (tentry_J4 img l r31 r63 true)
def tentry_B0 (img : List Int) (l : List (Int × Int)) (r31 : Int) (k99 : ((List Int) × Int) → Option (ByteArray × Int × Int)) (q97 : List Int) (p98 : Int) : Option (ByteArray × Int × Int) :=
 if p98 < 8 then (need (-9223372036854775808 ≤ (r31 + p98) ∧ (r31 + p98) ≤ 9223372036854775807) <|
need (q97.length + 1 ≤ 1000000000) <|
need (-9223372036854775808 ≤ (p98 + 1) ∧ (p98 + 1) ≤ 9223372036854775807) <|
k99 ((q97 ++ [(vget img l (r31 + p98))]), (p98 + 1))) else (tentry_J3 img l r31 q97)
def tentry_J2 (img : List Int) (l : List (Int × Int)) (k_ : Int) (r31 : Int) (p43 : Bool) : Option (ByteArray × Int × Int) :=
 if p43 = true then (some (ByteArray.empty, 0, 4)) else (iter (fun k_ s_ => tentry_B0 img l r31 k_ s_.1 s_.2) FUEL ([], 2))
def tentry_J1 (img : List Int) (l : List (Int × Int)) (gw : Int) (gi : Int) (gb : Int) (k_ : Int) (r9 : Int × Int) (p15 : Bool) : Option (ByteArray × Int × Int) :=
 if p15 = true then (some (ByteArray.empty, 0, r9.2)) else ((some (placeOf 9 gw gi gb r9.1)).bind fun r31 =>
need (-9223372036854775808 ≤ (r31 + 1) ∧ (r31 + 1) ≤ 9223372036854775807) <|
if (vget img l r31) < 1 then (tentry_J2 img l k_ r31 true) else (need (0 ≤ gi ∧ gi ≤ 18446744073709551615) <|
if (vget img l r31) ≥ gi then (tentry_J2 img l k_ r31 true) else (tentry_J2 img l k_ r31 (decide ((vget img l (r31 + 1)) > 40)))))
def tentry_M (img : List Int) (l : List (Int × Int)) (gw : Int) (gi : Int) (gb : Int) (n_ : Int) (k_ : Int) : Option (ByteArray × Int × Int) :=
 (bat_M img l gw gi gb n_ k_).bind fun r9 =>
if r9.2 = 0 then (tentry_J1 img l gw gi gb k_ r9 (decide (r9.1 = 0))) else (tentry_J1 img l gw gi gb k_ r9 true)
theorem tentry_walk {img : List Int} {l : List (Int × Int)} {gw : Int} {gi : Int} {gb : Int} {n_ : Int} {k_ : Int} {mb vb : Nat} {r : ByteArray × Int × Int} (B : Nat) (w : World) (hm : tentry_M img l gw gi gb n_ k_ = some r) : Spec Try.prog 76 #[(.agg #[(zp vb), (zi gw), (zi gi), (zi gb), (zp mb)]), (zi k_)] B w [zb mb 138 [(zp vb), (zi gw), (zi gi), (zi gb), (zi n_)], viewA (ptr vb) img l] (fun v H' => v = (.tuple #[(.agg #[(.string r.1), (zi r.2.1)]), (zi r.2.2)]) ∧ H' = [zb mb 138 [(zp vb), (zi gw), (zi gi), (zi gb), (zi n_)], viewA (ptr vb) img l]) := by
 refine spec_W Try.func76 rfl fun l0 hs => ?_
 unfold tentry_M at hm
 refine W.sr fun K1 hK1 => ?_
 refine zN [(zp vb), (zi gw), (zi gi), (zi gb), (zp mb)] 113 hs fun b4 w2 hs3 => ?_
 refine zN [(.string ByteArray.empty), (zi 0)] 89 hs3 fun b7 w5 hs6 => ?_
 refine zE 1 (hK1 _ _ ?_)
 refine W.sr fun K8 hK8 => ?_
 refine zR 1 ?_
 refine zL ⟨b4, 4, none⟩ (zp mb) (hs6.cellAt 1 rfl rfl) ?_
 refine zR 1 ?_
 obtain ⟨r9, h10, hm⟩ := bind_some hm
 refine zC00 hs6 (bat_walk (k_ := k_) (img := img) (l := l) (gw := gw) (gi := gi) (gb := gb) (n_ := n_) (hmb := (hs6.heapAt 2 rfl)) (hv := (hs6.entAt 3 rfl viewA_at)) (hm := h10) B _) fun w11 hs13 => ?_
 refine zE 5 (hK8 _ _ ?_)
 refine W.seq fun K14 hK14 => ?_
 refine W.seq_join (fun s_ w_ => ∃ (p15 : Bool), (∃ us, s_ = slots 89 [(2, (zp b4)), (4, (zp b7)), (6, (zi r9.1)), (7, (zi r9.2)), (26, (.bool p15))] us) ∧ St B w l0 w_ [viewA (ptr vb) img l, zb mb 138 [(zp vb), (zi gw), (zi gi), (zi gb), (zi n_)], zb b4 113 [(zp vb), (zi gw), (zi gi), (zi gb), (zp mb)], zb b7 89 [(.string ByteArray.empty), (zi 0)]] ∧ tentry_J1 img l gw gi gb k_ r9 p15 = some r) ?_ ?_
 ·
  rintro _ w16 ⟨p15, ⟨us, rfl⟩, hs17, hm⟩
  unfold tentry_J1 at hm
  refine W.cond p15 (by kernel_rfl) (fun h18 => ?_) (fun h18 => ?_)
  ·
   have h18p : p15 = true := h18
   replace hm := ite_yes hm h18p
   refine W.sr fun K19 hK19 => ?_
   refine zR 2 ?_
   have hs22 := St.f3 hs17
   refine zT 0 [(.string ByteArray.empty), (zi 0)] [(.string ByteArray.empty), (zi 0)] hs22 fun w20 hs23 => ?_
   refine zE 1 (hK19 _ _ ?_)
   refine W.ret (ret_seq ?_)
   obtain rfl := some_inj hm
   have hs24 := St.f1 hs23
   have hs25 := St.f2 hs24
   have hs26 := St.tk2 hs25
   refine ret_of (.tuple #[(.agg #[(.string ByteArray.empty), (zi 0)]), (zi r9.2)]) (resS_of (by kernel_rfl) (resD_two rfl (.agg (ad := ⟨b7, 0, none⟩) (cs := [(.string ByteArray.empty), (zi 0)]) (by kernel_rfl) (by kernel_rfl) (cells_sub (hs23.heapAt 0 rfl) rfl)) (.tmp (by kernel_rfl)))) ⟨_, ⟨rfl, rfl⟩, hs26⟩
  have h18p : ¬ (p15 = true) := ne_true_of_eq_false h18
  replace hm := ite_no hm h18p
  refine W.skip ?_
  refine hK14 _ _ ?_
  refine W.sr fun K27 hK27 => ?_
  refine zR 1 ?_
  refine zG ⟨b4, 1, none⟩ [(zi gw), (zi gi), (zi gb)] (cells_sub (hs17.heapAt 2 rfl) rfl) ?_
  refine zR 1 ?_
  refine zC00 hs17 (blockat_spec (gw := gw) (gi := gi) (gb := gb) (n_ := r9.1) B _) fun w28 hs30 => ?_
  refine zR 1 ?_
  obtain ⟨r31, h32, hm⟩ := bind_some hm
  replace h32 := some_inj h32
  refine ops_set 8 (v := .int .i64 r31) (Eq.trans (by kernel_rfl) (congrArg (Value.int .i64) h32)) ?_
  refine zD (hK27 _ _ ?_)
  refine W.seq fun K33 hK33 => ?_
  have hs34 := hs30.drew
  refine W.regionD [(0, 0), (1, 1), (0, 0), (6, 6), (0, 0), (16, 16), (0, 0), (64, 64), (168, 160), (271, 8), (1023, 256)] (fun w_ => St B w l0 w_ [viewA (ptr vb) img l, zb mb 138 [(zp vb), (zi gw), (zi gi), (zi gb), (zi n_)], zb b4 113 [(zp vb), (zi gw), (zi gi), (zi gb), (zp mb)], zb b7 89 [(.string ByteArray.empty), (zi 0)]]) (by kernel_rfl) hs34 ?_
  refine zA (zp b4) 0 hs34 ?_
  refine zB 1 ⟨b4, 0, none⟩ (zp vb) (fun _ hS_ => (hS_.cellAt 2 rfl rfl)) hs34 ?_
  refine zA (zi r31) 2 hs34 ?_
  refine zA (zp b4) 4 hs34 ?_
  refine zB 5 ⟨b4, 0, none⟩ (zp vb) (fun _ hS_ => (hS_.cellAt 2 rfl rfl)) hs34 ?_
  refine zA (zi r31) 6 hs34 ?_
  obtain ⟨h35, hm⟩ := need_some hm
  refine any_val (v := .int .i64 (IntKind.i64.wrap (r31 + 1))) (v' := .int .i64 (r31 + 1)) 7 (by kernel_rfl) (fun _ => by kernel_rfl) (congrArg (Value.int .i64) (wrap_i64 h35.1 h35.2)) hs34 ?_
  refine any_step 3 (by kernel_rfl) (by kernel_rfl) ?_
  refine zC00 hs34 (get_spec (at_ := r31) (hv := (hs34.entAt 0 rfl viewA_at)) B _) fun w36 hs38 => ?_
  refine ops_done (by kernel_rfl) ⟨hs38, ?_⟩
  refine any_step 8 (by kernel_rfl) (by kernel_rfl) ?_
  refine zC00 hs38 (get_spec (at_ := (r31 + 1)) (hv := (hs38.entAt 0 rfl viewA_at)) B _) fun w39 hs41 => ?_
  refine ops_done (by kernel_rfl) ⟨hs41, ?_⟩
  refine zA (zu (vget img l r31)) 9 hs41 ?_
  refine zA (zu (vget img l (r31 + 1))) 10 hs41 ?_
  refine any_done (by kernel_rfl) ?_
  refine hK33 _ _ ?_
  refine W.seq fun K42 hK42 => ?_
  refine W.seq_join (fun s_ w_ => ∃ (p43 : Bool), (∃ us, s_ = slots 89 [(2, (zp b4)), (4, (zp b7)), (8, (zi r31)), (9, (zu (vget img l r31))), (10, (zu (vget img l (r31 + 1)))), (55, (.bool p43))] us) ∧ St B w l0 w_ [viewA (ptr vb) img l, zb mb 138 [(zp vb), (zi gw), (zi gi), (zi gb), (zi n_)], zb b4 113 [(zp vb), (zi gw), (zi gi), (zi gb), (zp mb)], zb b7 89 [(.string ByteArray.empty), (zi 0)]] ∧ tentry_J2 img l k_ r31 p43 = some r) ?_ ?_
  ·
   rintro _ w44 ⟨p43, ⟨us, rfl⟩, hs45, hm⟩
   unfold tentry_J2 at hm
   refine W.cond p43 (by kernel_rfl) (fun h46 => ?_) (fun h46 => ?_)
   ·
    have h46p : p43 = true := h46
    replace hm := ite_yes hm h46p
    refine W.sr fun K47 hK47 => ?_
    refine zR 1 ?_
    have hs50 := St.f3 hs45
    refine zT 0 [(.string ByteArray.empty), (zi 0)] [(.string ByteArray.empty), (zi 0)] hs50 fun w48 hs51 => ?_
    refine zE 1 (hK47 _ _ ?_)
    refine W.ret (ret_seq ?_)
    obtain rfl := some_inj hm
    have hs52 := St.f1 hs51
    have hs53 := St.f2 hs52
    have hs54 := St.tk2 hs53
    refine ret_of (.tuple #[(.agg #[(.string ByteArray.empty), (zi 0)]), (zi 4)]) (resS_of (by kernel_rfl) (resD_two rfl (.agg (ad := ⟨b7, 0, none⟩) (cs := [(.string ByteArray.empty), (zi 0)]) (by kernel_rfl) (by kernel_rfl) (cells_sub (hs51.heapAt 0 rfl) rfl)) (.tmp (by kernel_rfl)))) ⟨_, ⟨rfl, rfl⟩, hs54⟩
   have h46p : ¬ (p43 = true) := ne_true_of_eq_false h46
   replace hm := ite_no hm h46p
   refine W.skip ?_
   refine hK42 _ _ ?_
   refine W.sr fun K55 hK55 => ?_
   refine zE 1 (hK55 _ _ ?_)
   refine W.seq_join (fun s_ w_ => ∃ (q58 : List Int) (m56 : Option Addr) (m57 : Nat), (∃ us, s_ = slots 89 [(4, (zp b7)), (9, (zu (vget img l r31))), (10, (zu (vget img l (r31 + 1)))), (11, (.slice m56 q58.length m57))] us) ∧ St B w l0 w_ [zb b7 89 [(.string ByteArray.empty), (zi 0)], kU64.row m56 m57 q58, viewA (ptr vb) img l, zb mb 138 [(zp vb), (zi gw), (zi gi), (zi gb), (zi n_)], zb b4 113 [(zp vb), (zi gw), (zi gi), (zi gb), (zp mb)]] ∧ tentry_J3 img l r31 q58 = some r) ?_ ?_
   ·
    rintro _ w59 ⟨q58, m56, m57, ⟨us, rfl⟩, hs60, hm⟩
    unfold tentry_J3 at hm
    refine W.sr fun K61 hK61 => ?_
    refine zR 2 ?_
    obtain ⟨h62, hm⟩ := need_some hm
    refine zI _ (wrap_i64 h62.1 h62.2) ?_
    obtain ⟨r63, h64, hm⟩ := bind_some hm
    refine zC00 hs60 (unpack_walk (ws := q58) (n_ := (vget img l (r31 + 1))) (wa := m56) (wc := m57) (hw := (St.kcells kU64 hs60 1 rfl)) (hm := h64) B _) fun w65 hs67 => ?_
    refine zE 5 (hK61 _ _ ?_)
    refine W.seq fun K68 hK68 => ?_
    refine W.seq_join (fun s_ w_ => ∃ (p69 : Bool), (∃ us, s_ = slots 89 [(4, (zp b7)), (9, (zu (vget img l r31))), (13, (.string r63.1)), (83, (.bool p69))] us) ∧ St B w l0 w_ [zb b7 89 [(.string ByteArray.empty), (zi 0)], kU64.row m56 m57 q58, viewA (ptr vb) img l, zb mb 138 [(zp vb), (zi gw), (zi gi), (zi gb), (zi n_)], zb b4 113 [(zp vb), (zi gw), (zi gi), (zi gb), (zp mb)]] ∧ tentry_J4 img l r31 r63 p69 = some r) ?_ ?_
    ·
     rintro _ w70 ⟨p69, ⟨us, rfl⟩, hs71, hm⟩
     unfold tentry_J4 at hm
     refine W.cond p69 (by kernel_rfl) (fun h72 => ?_) (fun h72 => ?_)
     ·
      have h72p : p69 = true := h72
      replace hm := ite_yes hm h72p
      refine W.sr fun K73 hK73 => ?_
      refine zR 1 ?_
      refine zT 0 [(.string ByteArray.empty), (zi 0)] [(.string ByteArray.empty), (zi 0)] hs71 fun w74 hs76 => ?_
      refine zE 1 (hK73 _ _ ?_)
      refine W.ret (ret_seq ?_)
      obtain rfl := some_inj hm
      have hs77 := St.f2 hs76
      have hs78 := St.f3 hs77
      have hs79 := St.tk2 hs78
      refine ret_of (.tuple #[(.agg #[(.string ByteArray.empty), (zi 0)]), (zi 4)]) (resS_of (by kernel_rfl) (resD_two rfl (.agg (ad := ⟨b7, 0, none⟩) (cs := [(.string ByteArray.empty), (zi 0)]) (by kernel_rfl) (by kernel_rfl) (cells_sub (hs76.heapAt 0 rfl) rfl)) (.tmp (by kernel_rfl)))) ⟨_, ⟨rfl, rfl⟩, hs79⟩
     have h72p : ¬ (p69 = true) := ne_true_of_eq_false h72
     replace hm := ite_no hm h72p
     refine W.skip ?_
     refine hK68 _ _ ?_
     refine W.sr fun K80 hK80 => ?_
     refine zR 2 ?_
     obtain ⟨h81, hm⟩ := need_some hm
     refine zI _ (wrap_i64 h81.1 h81.2) ?_
     refine zR 1 ?_
     refine zT 0 [(.string r63.1), (zi (vget img l r31))] [(.string r63.1), (zi (vget img l r31))] hs71 fun w82 hs84 => ?_
     refine zE 1 (hK80 _ _ ?_)
     refine W.ret ?_
     obtain rfl := some_inj hm
     have hs85 := St.f2 hs84
     have hs86 := St.f3 hs85
     have hs87 := St.tk2 hs86
     refine ret_of (.tuple #[(.agg #[(.string r63.1), (zi (vget img l r31))]), (zi 0)]) (resS_of (by kernel_rfl) (resD_two rfl (.agg (ad := ⟨b7, 0, none⟩) (cs := [(.string r63.1), (zi (vget img l r31))]) (by kernel_rfl) (by kernel_rfl) (cells_sub (hs84.heapAt 0 rfl) rfl)) (.tmp (by kernel_rfl)))) ⟨_, ⟨rfl, rfl⟩, hs87⟩
    refine W.region ?_
    refine zR 3 ?_
    rcases Bool.eq_false_or_eq_true (!decide (r63.2 = 0)) with h88 | h88
    rotate_left
    ·
     have h88p : r63.2 = 0 := of_decide_eq_true (bnot_false h88)
     replace hm := ite_yes hm h88p
     refine zS 79 h88 ?_
     refine zS 78 h88 ?_
     refine zR 1 ?_
     obtain ⟨r89, h90, hm⟩ := bind_some hm
     refine zC00 hs67 (emay_walk (tx_ := r63.1) (hm := h90) B _) fun w91 hs93 => ?_
     refine zE 2 ?_
     exact ⟨(!r89), slots_intro _ (by kernel_rfl), hs93, hm⟩
    have h88p : ¬ (r63.2 = 0) := of_decide_eq_false (bnot_true h88)
    replace hm := ite_no hm h88p
    refine zS 79 h88 ?_
    refine zS 78 h88 ?_
    refine zE 4 ?_
    exact ⟨true, slots_intro _ (by kernel_rfl), hs67, hm⟩
   refine W.sr fun K94 hK94 => ?_
   refine zE 1 (hK94 _ _ ?_)
   refine W.block ?_
   have hs103 := St.knil kU64 hs45
   have hs104 := St.f4 hs103
   have hs105 := St.f4 hs104
   have hs106 := St.f4 hs105
   have hs107 := St.f4 hs106
   refine W.loop_iter (G := (List Int) × Int × (Option Addr) × Nat) (σ := (List Int) × Int) (fun | (q97, p98, m95, m96) => (q97, p98)) (fun | (q97, p98, m95, m96), s_, w_ => (∃ us, s_ = slots 89 [(2, (zp b4)), (4, (zp b7)), (8, (zi r31)), (9, (zu (vget img l r31))), (10, (zu (vget img l (r31 + 1)))), (11, (.slice m95 q97.length m96)), (12, (zi p98))] us) ∧ St B w l0 w_ [viewA (ptr vb) img l, zb mb 138 [(zp vb), (zi gw), (zi gi), (zi gb), (zi n_)], zb b4 113 [(zp vb), (zi gw), (zi gi), (zi gb), (zp mb)], zb b7 89 [(.string ByteArray.empty), (zi 0)], kU64.row m95 m96 q97]) ([], 2, none, 0) ⟨slots_intro _ (by kernel_rfl), hs107⟩ hm ?_
   rintro k99 ih100 ⟨q97, p98, m95, m96⟩ _ w101 ⟨⟨us, rfl⟩, hs102⟩ hm
   replace hm : tentry_B0 img l r31 k99 q97 p98 = some r := hm
   unfold tentry_B0 at hm
   refine W.seq fun K108 hK108 => ?_
   refine W.sr fun K109 hK109 => ?_
   refine zE 2 (hK109 _ _ ?_)
   refine W.cond (decide (p98 < 8)) (by kernel_rfl) (fun h110 => ?_) (fun h110 => ?_)
   ·
    obtain ⟨h110p, hm⟩ := iY hm h110
    refine W.skip ?_
    refine hK108 _ _ ?_
    refine W.seq fun K111 hK111 => ?_
    refine W.block ?_
    refine W.region ?_
    refine zR 2 ?_
    refine zL ⟨b4, 0, none⟩ (zp vb) (hs102.cellAt 2 rfl rfl) ?_
    refine zR 2 ?_
    obtain ⟨h112, hm⟩ := need_some hm
    refine zI _ (wrap_i64 h112.1 h112.2) ?_
    refine zC00 hs102 (get_spec (at_ := (r31 + p98)) (hv := (hs102.entAt 0 rfl viewA_at)) B _) fun w113 hs115 => ?_
    refine ops_new (fun b => .slice (some ⟨b, 0, none⟩) 1 1) (.cells [(zu (vget img l (r31 + p98)))].toArray 58 (0, 0)) hs115 (by kernel_rfl) (fun b118 w116 hs117 => ?_)
    have hs119 := St.f5 hs117
    obtain ⟨h124, hm⟩ := need_some hm
    refine ops_appendK kU64 (bytes := 8) (a' := (some ⟨b118, 0, none⟩)) (c' := 1) (l := q97) (m := [(vget img l (r31 + p98))]) hs119 (by kernel_rfl) (by simp) (cells_blk (hs119.heapAt 1 rfl)) (by unfold maxLen; (try simp only [List.length_cons, List.length_nil]); omega) (by (try simp only [List.length_cons, List.length_nil]); omega) (fun a120 c121 w122 hs123 => ?_)
    refine zE 1 ?_
    refine normal_block ?_
    refine hK111 _ _ ?_
    refine W.region ?_
    refine zR 1 ?_
    obtain ⟨h125, hm⟩ := need_some hm
    refine zI _ (wrap_i64 h125.1 h125.2) ?_
    refine zE 1 ?_
    have hs126 := St.f5 hs123
    have hs127 := St.f5 hs126
    have hs128 := St.f5 hs127
    have hs129 := St.f5 hs128
    have hs130 := St.tk5 hs129
    refine loopAt_next ?_
    exact ih100 ((q97 ++ [(vget img l (r31 + p98))]), (p98 + 1), a120, c121) _ _ ⟨slots_intro _ (by kernel_rfl), hs130⟩ hm
   obtain ⟨h110p, hm⟩ := iN hm h110
   refine W.exit (exit_seq (exit_seq (exit_here ?_)))
   have hs131 := St.f2 hs102
   have hs132 := St.f2 hs131
   have hs133 := St.f2 hs132
   have hs134 := St.f4 hs133
   have hs135 := St.f4 hs134
   exact ⟨q97, m95, m96, slots_intro _ (by kernel_rfl), hs135, hm⟩
  refine W.region ?_
  refine zR 3 ?_
  rcases Bool.eq_false_or_eq_true (decide ((vget img l r31) < 1)) with h136 | h136
  ·
   obtain ⟨h136p, hm⟩ := iY hm h136
   refine zS 44 h136 ?_
   refine zS 43 h136 ?_
   refine zE 11 ?_
   exact ⟨true, slots_intro _ (by kernel_rfl), hs41, hm⟩
  obtain ⟨h136p, hm⟩ := iN hm h136
  refine zS 44 h136 ?_
  refine zS 43 h136 ?_
  refine zR 3 ?_
  refine zL ⟨b4, 2, none⟩ (zi gi) (hs41.cellAt 2 rfl rfl) ?_
  obtain ⟨h137, hm⟩ := need_some hm
  refine zI _ (wrap_u64 h137.1 (Int.lt_of_le_of_lt h137.2 (by decide))) ?_
  refine zR 3 ?_
  rcases Bool.eq_false_or_eq_true (decide ((vget img l r31) ≥ gi)) with h138 | h138
  ·
   obtain ⟨h138p, hm⟩ := iY hm h138
   refine zS 52 h138 ?_
   refine zS 50 h138 ?_
   refine zS 51 h138 ?_
   refine zE 3 ?_
   exact ⟨true, slots_intro _ (by kernel_rfl), hs41, hm⟩
  obtain ⟨h138p, hm⟩ := iN hm h138
  refine zS 52 h138 ?_
  refine zS 50 h138 ?_
  refine zS 51 h138 ?_
  refine zE 3 ?_
  exact ⟨(decide ((vget img l (r31 + 1)) > 40)), slots_intro _ (by kernel_rfl), hs41, hm⟩
 refine W.region ?_
 refine zR 3 ?_
 rcases Bool.eq_false_or_eq_true (!decide (r9.2 = 0)) with h139 | h139
 rotate_left
 ·
  have h139p : r9.2 = 0 := of_decide_eq_true (bnot_false h139)
  replace hm := ite_yes hm h139p
  refine zS 23 h139 ?_
  refine zS 22 h139 ?_
  refine zE 3 ?_
  have hs140 := St.f1 hs13
  have hs141 := St.f2 hs140
  have hs142 := St.f3 hs141
  exact ⟨(decide (r9.1 = 0)), slots_intro _ (by kernel_rfl), hs142, hm⟩
 have h139p : ¬ (r9.2 = 0) := of_decide_eq_false (bnot_true h139)
 replace hm := ite_no hm h139p
 refine zS 23 h139 ?_
 refine zS 22 h139 ?_
 refine zE 3 ?_
 have hs143 := St.f1 hs13
 have hs144 := St.f2 hs143
 have hs145 := St.f3 hs144
 exact ⟨true, slots_intro _ (by kernel_rfl), hs145, hm⟩
end Go.Proofs.Ytmmclabkkigiaaa

set_option maxRecDepth 20000
namespace Go.Proofs.Ytmmclabkkigiaaa
open Go Go.RowKit
theorem sumnew_spec  (B : Nat) (w : World) : Spec Try.prog 88 #[] B w [] (fun v H' => ∃ b, v = ptr b ∧ H' = [zb b 162 [(zu 14695981039346656037)]]) := by
 refine spec_Q Try.func88 rfl fun hs => ?_
 refine W.sr fun K1 hK1 => ?_
 refine zE 1 (hK1 _ _ ?_)
 refine W.sr fun K2 hK2 => ?_
 refine zR 1 ?_
 refine zN [(zu 14695981039346656037)] 162 hs fun b5 w3 hs4 => ?_
 refine zE 1 (hK2 _ _ ?_)
 refine W.ret ?_
 refine ret_of (zp b5) (by kernel_rfl) ⟨_, ⟨b5, rfl, rfl⟩, hs4⟩
def sumadd_M (s_ : Int) (w_ : Int) : Option (Int) :=
 (some (bits .xor .u64 s_ w_)).bind fun r2 =>
some ((r2 * 1099511628211) % 18446744073709551616)
theorem sumadd_walk {s_ : Int} {w_ : Int} {sb : Nat} {r : Int} (B : Nat) (w : World) (hm : sumadd_M s_ w_ = some r) : Spec Try.prog 89 #[(zp sb), (zu w_)] B w [zb sb 162 [(zu s_)]] (fun v H' => v = .tuple #[] ∧ H' = [zb sb 162 [(zu r)]]) := by
 refine spec_W Try.func89 rfl fun l0 hs => ?_
 unfold sumadd_M at hm
 refine W.sr fun K1 hK1 => ?_
 refine zE 2 (hK1 _ _ ?_)
 refine W.cond_true true (by kernel_rfl) rfl ?_
 refine W.region ?_
 refine zR 4 ?_
 refine zL ⟨sb, 0, none⟩ (zu s_) (hs.cellAt 0 rfl rfl) ?_
 refine zR 2 ?_
 obtain ⟨r2, h3, hm⟩ := bind_some hm
 replace h3 := some_inj h3
 refine ops_set 12 (v := .int .u64 r2) (Eq.trans (by kernel_rfl) (congrArg (Value.int .u64) h3)) ?_
 refine ops_val (v := .int .u64 (IntKind.u64.wrap (r2 * 1099511628211))) (v' := .int .u64 ((r2 * 1099511628211) % 18446744073709551616)) (by kernel_rfl) (congrArg (Value.int .u64) (wrap_u64_mod _)) ?_
 refine zR 2 ?_
 refine zT 0 [(zu ((r2 * 1099511628211) % 18446744073709551616))] [(zu ((r2 * 1099511628211) % 18446744073709551616))] hs fun w4 hs6 => ?_
 refine zD ?_
 obtain rfl := some_inj hm
 refine ret_ofN (.tuple #[]) (by kernel_rfl) ⟨_, ⟨rfl, rfl⟩, hs6⟩
def sumnow_M (s_ : Int) : Option (Int) :=
 some s_
theorem sumnow_walk {s_ : Int} {sb : Nat} {r : Int} (B : Nat) (w : World) (hm : sumnow_M s_ = some r) : Spec Try.prog 91 #[(zp sb)] B w [zb sb 162 [(zu s_)]] (fun v H' => v = .int .u64 r ∧ H' = [zb sb 162 [(zu s_)]]) := by
 refine spec_W Try.func91 rfl fun l0 hs => ?_
 unfold sumnow_M at hm
 refine W.sr fun K1 hK1 => ?_
 refine zE 1 (hK1 _ _ ?_)
 refine W.seq fun K2 hK2 => ?_
 refine W.sr fun K3 hK3 => ?_
 refine zE 2 (hK3 _ _ ?_)
 refine W.cond_false false (by kernel_rfl) rfl ?_
 refine W.skip ?_
 refine hK2 _ _ ?_
 refine W.sr fun K4 hK4 => ?_
 refine zR 3 ?_
 refine zL ⟨sb, 0, none⟩ (zu s_) (hs.cellAt 0 rfl rfl) ?_
 refine zE 1 (hK4 _ _ ?_)
 refine W.ret ?_
 obtain rfl := some_inj hm
 refine ret_of (zu s_) (by kernel_rfl) ⟨_, ⟨rfl, rfl⟩, hs⟩
end Go.Proofs.Ytmmclabkkigiaaa

namespace Go.Proofs.Ytmmclabkkigiaaa
open Go Go.RowKit
theorem W.roundsA {G GZ : Type} {P : Program} {s : Fs} {w : World} {Q : Exit → Fs → World → Prop} {B : Nat} {w0 : World} {l0 : List Nat} {g : Operand} {ps : Array Tmp} {assign body : Code} {gf : Nat} {lb : Array Value}
    (n : Nat) (F : Nat → G → Prop) (Hs : G → List Asn) (c : Code) (FZ : GZ → Prop) (HsZ : GZ → List Asn) (own : List Asn) (enc : Nat → Array Value) (s0 : Nat → Nat → Fs) (x0 : G) (h0 : F 0 x0)
    (hs : St B w0 l0 w (own ++ Hs x0)) (hr : s.r = none) (hg : evS s g = .func (.func gf) #[] lb) (hf : ∀ args w, (callFunc gf args).run P w = .ok (.enter gf args) w) (hsz : ∀ k, (enc k).size = ps.size)
    (hrel : ∀ (a : Array Value) (k l : Nat), a.size = s.n → (∀ i, a.getD i undef = s.f i) → Rel ⟨(ps.zip (enc k)).foldl (fun tmps (t, a) => tmps.setIfInBounds t a) a, []⟩ (s0 k l) ∧ (s0 k l).r = some l)
    (ar : Nat → Array Value) (har : ∀ l, #[.func (.yield l) #[] #[]] ++ lb = ar l)
    (iter : ∀ (l : Nat) (w1 : World) (Y : Nat → Asn) (Z : Asn), (∀ k, k < n → ∀ w', YSpec P l (enc k) B w' [Y k] (fun v H' => (v = .bool true ∧ H' = [Y (k + 1)]) ∨ (v = .bool false ∧ H' = [Z]))) →
      Spec P gf (ar l) B w1 (own ++ [Y 0]) (fun v H' => v = .tuple #[] ∧ (H' = own ++ [Y n] ∨ H' = own ++ [Z])))
    (round : ∀ (k : Nat), k < n → ∀ (rc : Loop) (l : Nat) (w' : World) (x : G), F k x → ∀ lf, St B w' lf w' (blk l (.loop rc) :: Hs x) → ∀ K : Fs → World → Prop, (∀ s' w1, St B w' lf w1 (blk l (.loop rc) :: Hs x) →
      (∀ w2, St B w' lf w2 (blk l (.loop { rc with state := .busy }) :: Hs x) → W P body s' w2 (rq B w' lf l rc (F (k + 1)) Hs c FZ HsZ)) → K s' w1) → W P assign (s0 k l) w' (seqQ K (fun _ _ _ => False)))
    (done : ∀ D w3 x, F n x → St B w0 l0 w3 (blk D (.deferred (some [])) :: (own ++ Hs x)) → Q .normal (s.mark D) w3)
    (jump : ∀ D w3 z, FZ z → St B w0 l0 w3 (blk D (.deferred (some [])) :: (own ++ HsZ z)) → W P c (s.mark D) w3 Q) : W P (.rangeFunc g ps assign body) s w Q :=
  W.rounds n F Hs c FZ HsZ own enc s0 x0 h0 hs hr hg hf hsz hrel (fun l w1 Y Z hy => by rw [har l]; exact iter l w1 Y Z hy) round done jump
end Go.Proofs.Ytmmclabkkigiaaa

set_option maxRecDepth 20000
set_option maxHeartbeats 2000000
namespace Go.Proofs.Ytmmclabkkigiaaa
open Go Go.RowKit
theorem values_spec {wa : Option Addr} {wc : Nat} {ws : List Int} (B : Nat) (w : World) : Spec Try.prog 90 #[(.slice wa ws.length wc)] B w [] (fun v H' => ∃ b1, v = .func (.func 95) #[] #[ptr b1] ∧ H' = [zb b1 44 [(.slice wa ws.length wc)]]) := by
 refine spec_Q Try.func90 rfl fun hs => ?_
 refine W.sr fun K1 hK1 => ?_
 refine zN [(.slice wa ws.length wc)] 44 hs fun b4 w2 hs3 => ?_
 refine zE 1 (hK1 _ _ ?_)
 refine W.sr fun K5 hK5 => ?_
 refine zE 2 (hK5 _ _ ?_)
 refine W.ret ?_
 refine ret_of (.func (.func 95) #[] #[(zp b4)]) (by kernel_rfl) ⟨_, ⟨b4, rfl, rfl⟩, hs3⟩
theorem values1_spec {c1 yl : Nat} {wa : Option Addr} {wc : Nat} {ws : List Int} {Y : Nat → Asn} {Z : Asn} (B : Nat) (w : World) (hbm : ws.length ≤ 1000000) (hy : ∀ k : Nat, k < ws.length → ∀ w', YSpec Try.prog yl #[(zu (ws.getD k 0))] B w' [Y k] (fun v H' => (v = .bool true ∧ H' = [Y (k + 1)]) ∨ (v = .bool false ∧ H' = [Z]))) : Spec Try.prog 95 #[(.func (.yield yl) #[] #[]), (zp c1)] B w [zb c1 44 [(.slice wa ws.length wc)], kU64.row wa wc ws, Y 0] (fun v H' => v = .tuple #[] ∧ (H' = [zb c1 44 [(.slice wa ws.length wc)], kU64.row wa wc ws, Y ws.length] ∨ H' = [zb c1 44 [(.slice wa ws.length wc)], kU64.row wa wc ws, Z])) := by
 refine spec_W Try.func95 rfl fun l0 hs => ?_
 refine W.sr fun K1 hK1 => ?_
 refine zL ⟨c1, 0, none⟩ (.slice wa ws.length wc) (hs.cellAt 0 rfl rfl) ?_
 refine zE 2 (hK1 _ _ ?_)
 refine W.block ?_
 refine W.loop (G := Nat) (fun | k, s_, w_ => (∃ us, s_ = slots 16 [(0, (.func (.yield yl) #[] #[])), (5, (.slice wa ws.length wc)), (6, (zi (ws.length : Int))), (7, (zi ((k : Nat) : Int)))] us) ∧ St B w l0 w_ [zb c1 44 [(.slice wa ws.length wc)], kU64.row wa wc ws, Y k] ∧ (k ≤ ws.length)) (fun k => ws.length - k) 0 ⟨slots_intro _ (by kernel_rfl), hs, by omega⟩ ?_
 rintro k _ w2 ⟨⟨us, rfl⟩, hs3, hk0⟩
 refine W.sr fun K4 hK4 => ?_
 refine zE 1 (hK4 _ _ ?_)
 refine W.seq fun K5 hK5 => ?_
 refine W.cond (decide (((k : Nat) : Int) < (ws.length : Int))) (by kernel_rfl) (fun h6 => ?_) (fun h6 => ?_)
 ·
  have h6p := of_decide_eq_true h6
  refine W.skip ?_
  refine hK5 _ _ ?_
  refine W.seq fun K7 hK7 => ?_
  refine W.block ?_
  refine W.sr fun K8 hK8 => ?_
  have h10 : (k : Nat) < ws.length := by omega
  have hk9 := h10
  refine ops_R (runs_index (a := wa) (n := ws.length) (z := ((k : Nat) : Int)) (size := 1) (k : Nat) rfl hk9 (kU64.addr (St.kcells kU64 hs3 1 rfl) hk9) (by kernel_rfl)) ?_
  refine zL ((adr wa ((k : Nat) * 1)).add 0) (zu (ws.getD (k : Nat) 0)) (kU64.at (St.kcells kU64 hs3 1 rfl) hk9 0 0 rfl) ?_
  refine zE 1 (hK8 _ _ ?_)
  refine W.sr fun K11 hK11 => ?_
  refine zR 2 ?_
  have hs12 := St.f2 hs3
  refine ops_yield (pre := [Y k]) (l := yl) hs12 (by kernel_rfl) (by kernel_rfl) (hy k (by omega) _) ?_
  rintro _ _ w13 (⟨rfl, rfl⟩ | ⟨rfl, rfl⟩) hs14
  ·
   have hs15 : St B w l0 w13 [Y (k + 1), zb c1 44 [(.slice wa ws.length wc)], kU64.row wa wc ws] := hs14
   refine zE 1 (hK11 _ _ ?_)
   refine W.cond_false false (by kernel_rfl) rfl ?_
   refine W.skip ?_
   refine normal_block ?_
   refine hK7 _ _ ?_
   refine W.region ?_
   have h16 : -9223372036854775808 ≤ (((k : Nat) : Int) + 1) ∧ (((k : Nat) : Int) + 1) ≤ 9223372036854775807 := by omega
   refine zI _ (wrap_i64 h16.1 h16.2) ?_
   refine zE 1 ?_
   have hs17 := St.f2 hs15
   have hs18 := St.f2 hs17
   exact ⟨k + 1, ⟨slots_intro _ (by kernel_rfl), hs18, by omega⟩, by omega⟩
  have hs19 : St B w l0 w13 [Z, zb c1 44 [(.slice wa ws.length wc)], kU64.row wa wc ws] := hs14
  refine zE 1 (hK11 _ _ ?_)
  refine W.cond_true true (by kernel_rfl) rfl ?_
  refine W.ret (ret_block (ret_seq (ret_seq (ret_block ?_))))
  have hs20 := St.f2 hs19
  have hs21 := St.f2 hs20
  refine ret_of (.tuple #[]) (by kernel_rfl) ⟨_, ⟨rfl, .inr rfl⟩, hs21⟩
 have h6p := of_decide_eq_false h6
 refine W.exit (exit_seq (exit_seq (exit_here ?_)))
 have hn_ : k = ws.length := by omega
 subst hn_
 refine ret_ofN (.tuple #[]) (by kernel_rfl) ⟨_, ⟨rfl, .inl rfl⟩, hs3⟩
end Go.Proofs.Ytmmclabkkigiaaa

set_option maxRecDepth 20000
set_option maxHeartbeats 4000000
namespace Go.Proofs.Ytmmclabkkigiaaa
open Go Go.RowKit
def sumof_D29 (p28 : Int) : Option (Int) :=
 (sumnow_M p28).bind fun r44 =>
some r44
def sumof_R29 (ws : List Int) (k22 : Nat) (c23 : Int → Option (Int)) (p28 : Int) : Option (Int) :=
 (sumadd_M p28 (ws.getD k22 0)).bind fun r67 =>
c23 r67
def sumof_M (ws : List Int) : Option (Int) :=
 need (ws.length ≤ 1000000) <|
rounds (fun k_ c_ s_ => sumof_R29 ws k_ c_ s_) (fun s_ => sumof_D29 s_) ws.length 0 14695981039346656037
theorem sumof_walk {ws : List Int} {wa : Option Addr} {wc : Nat} {r : Int} (B : Nat) (w : World) (hm : sumof_M ws = some r) : Spec Try.prog 81 #[(.slice wa ws.length wc)] B w [kU64.row wa wc ws] (fun v H' => v = .int .u64 r ∧ H' = [kU64.row wa wc ws]) := by
 refine spec_W Try.func81 rfl fun l0 hs => ?_
 unfold sumof_M at hm
 refine W.sr fun K1 hK1 => ?_
 refine zE 1 (hK1 _ _ ?_)
 refine W.sr fun K2 hK2 => ?_
 refine ops_call0 hs (by kernel_rfl) (sumnew_spec B _) ?_
 rintro _ _ w4 ⟨b3, rfl, rfl⟩ hs5
 have hs6 := St.ap1 hs5
 refine zE 1 (hK2 _ _ ?_)
 refine W.sr fun K7 hK7 => ?_
 refine zR 2 ?_
 refine zN [.nilFunc] 148 hs6 fun b10 w8 hs9 => ?_
 refine zT 0 [(.func (.func 89) #[(zp b3)] #[])] [(.func (.func 89) #[(zp b3)] #[])] hs9 fun w11 hs13 => ?_
 refine zD (hK7 _ _ ?_)
 refine W.seq fun K14 hK14 => ?_
 refine W.sr fun K15 hK15 => ?_
 refine zR 1 ?_
 refine ops_call0 hs13 (by kernel_rfl) (values_spec (wa := wa) (wc := wc) (ws := ws) B _) ?_
 rintro _ _ w17 ⟨b16, rfl, rfl⟩ hs18
 have hs19 := St.ap1 hs18
 refine zD (hK15 _ _ ?_)
 refine W.block ?_
 obtain ⟨h20, hm⟩ := need_some hm
 refine W.norm (n := 17) (l := [(3, (zp b3)), (4, (zp b10)), (10, (.func (.func 95) #[] #[(zp b16)]))]) (by kernel_rfl) (fun us21 => ?_)
 have hs24 := St.f2 hs19
 have hs25 := St.f2 hs24
 have hs26 := St.f3 hs25
 have hs27 := St.f3 hs26
 have hs34 := St.f3 hs27
 have hs35 := St.f3 hs34
 have hs36 := St.f3 hs35
 have hs37 := St.f3 hs36
 have hF38 : rounds (fun k_ c_ s_ => sumof_R29 ws k_ c_ s_) (fun s_ => sumof_D29 s_) (ws.length - 0) 0 14695981039346656037 = some r := by rw [Nat.sub_zero]; exact hm
 clear hm
 refine W.roundsA (G := Int) (GZ := Unit) (gf := 95) (lb := #[(zp b16)]) ws.length (fun k_ p28 => rounds (fun k_ c_ s_ => sumof_R29 ws k_ c_ s_) (fun s_ => sumof_D29 s_) (ws.length - k_) k_ p28 = some r) (fun p28 => [zb b10 148 [(.func (.func 89) #[(zp b3)] #[])], zb b3 162 [(zu p28)]]) .ret (fun (_ : Unit) => False) (fun _ => []) [zb b16 44 [(.slice wa ws.length wc)], kU64.row wa wc ws] (fun k_ => #[(zu (ws.getD k_ 0))]) (fun k_ l_ => slotsD 17 ((11, (zu (ws.getD k_ 0))) :: [(3, (zp b3)), (4, (zp b10)), (10, (.func (.func 95) #[] #[(zp b16)]))]) us21 (some l_) []) 14695981039346656037 hF38 hs37 rfl (by kernel_rfl) (fun _ _ => by kernel_rfl) (fun _ => rfl) (fun a_ k_ l_ h1_ h2_ => ⟨rel_round1 (n := 17) (by decide) h1_ h2_, rfl⟩) (fun l_ => #[.func (.yield l_) #[] #[], (zp b16)]) (fun _ => rfl) (fun l_ w_ Y_ Z_ hy_ => values1_spec (ws := ws) (yl := l_) (Y := Y_) (Z := Z_) (hbm := h20) (hy := fun k_ h_ w_ => hy_ k_ h_ w_) _ w_) ?_ ?_ ?_
 rotate_left
 ·
  rintro D33 w39 p28 hF41 hs40
  replace hF41 : rounds (fun k_ c_ s_ => sumof_R29 ws k_ c_ s_) (fun s_ => sumof_D29 s_) (ws.length - ws.length) ws.length p28 = some r := hF41
  rw [rounds_end] at hF41
  have hm : sumof_D29 p28 = some r := hF41
  clear hF41
  unfold sumof_D29 at hm
  have hs42 : St B w l0 w39 [blk D33 (.deferred (some [])), zb b16 44 [(.slice wa ws.length wc)], kU64.row wa wc ws, zb b10 148 [(.func (.func 89) #[(zp b3)] #[])], zb b3 162 [(zu p28)]] := hs40
  refine normal_block ?_
  refine hK14 _ _ ?_
  refine W.sr fun K43 hK43 => ?_
  refine zR 1 ?_
  obtain ⟨r44, h45, hm⟩ := bind_some hm
  have hs46 := St.f4 hs42
  refine zC11 hs46 (sumnow_walk (sb := b3) (s_ := p28) (hm := h45) B _) fun w47 hs49 => ?_
  refine zE 1 (hK43 _ _ ?_)
  refine W.ret ?_
  obtain rfl := some_inj hm
  have hs50 := St.f4 hs49
  have hs51 := St.f4 hs50
  have hs52 := St.f4 hs51
  have hs53 := St.f3 hs52
  have hs54 := St.f4 hs53
  refine leave_mark (D := D33) (v := (zu r44)) hs54 (by kernel_rfl) (fun w55 hs56 => (resD_one rfl (.tmp (by kernel_rfl)))) (fun w55 hs56 => ?_)
  have hs57 := St.f2 hs56
  have hs58 := St.tk1 hs57
  exact ⟨_, ⟨rfl, rfl⟩, hs58⟩
 ·
  rintro _ _ _ h_ _
  exact h_.elim
 rintro k22 hk59 rc31 l30 w60 p28 hF64 lf61 hs62 K63 hK63
 replace hF64 : rounds (fun k_ c_ s_ => sumof_R29 ws k_ c_ s_) (fun s_ => sumof_D29 s_) (ws.length - k22) k22 p28 = some r := hF64
 rw [rounds_at hk59] at hF64
 obtain ⟨c23, hc23⟩ : ∃ c_, c_ = rounds (fun k_ c_ s_ => sumof_R29 ws k_ c_ s_) (fun s_ => sumof_D29 s_) (ws.length - (k22 + 1)) (k22 + 1) := ⟨_, rfl⟩
 rw [← hc23] at hF64
 have hm : sumof_R29 ws k22 c23 p28 = some r := hF64
 clear hF64
 unfold sumof_R29 at hm
 refine W.region ?_
 refine zE 1 ?_
 refine hK63 _ _ hs62 (fun w65 hs66 => ?_)
 refine W.block ?_
 refine W.region ?_
 refine zL ⟨b10, 0, none⟩ (.func (.func 89) #[(zp b3)] #[]) (hs66.cellAt 1 rfl rfl) ?_
 refine zR 1 ?_
 obtain ⟨r67, h68, hm⟩ := bind_some hm
 have hs69 := St.f2 hs66
 refine zC11 hs69 (sumadd_walk (sb := b3) (s_ := p28) (w_ := (ws.getD k22 0)) (hm := h68) B _) fun w70 hs72 => ?_
 refine zD ?_
 refine normal_block ?_
 have hs73 := St.f2 hs72
 have hs74 := St.f2 hs73
 rw [hc23] at hm
 exact ⟨r67, hm, hs74⟩
end Go.Proofs.Ytmmclabkkigiaaa

namespace Go.Proofs.Ytmmclabkkigiaaa
open Go Go.RowKit
theorem W.normD {P : Program} {c : Code} {s : Fs} {w : World} {Q : Exit → Fs → World → Prop} {n : Nat} {r : Option Nat} {d : List Deferred} {l : List (Nat × Value)} (h : ((s.n, s.r, s.d), l.map fun p => s.f p.1) = ((n, r, d), l.map (·.2))) (hk : ∀ us, W P c (slotsD n l us r d) w Q) : W P c s w Q := by
  obtain ⟨us, rfl⟩ := slotsD_intro s h
  exact hk us
theorem run_enterLoop_inner {P : Program} {w : World} {lo : Nat} {rc0 : Loop} (h : w.heap[lo]? = some (.loop rc0)) (fn : FuncId) (tmps : Array Value) (ps : Array Tmp) (assign body : Code) :
    (Instr.enterLoop fn tmps ps assign body (some lo)).run P w = .ok (w.heap.size, []) (w.alloc (.loop { state := .ready, pending := none, fn, tmps, params := ps, assign, body, defers := rc0.defers })) := by
  unfold Instr.enterLoop
  simp only [Sem.run_bind, run_getLoop h, run_newObj_alloc, Result.andThen, Sem.run_pure]
theorem W.rangeFuncIn {P : Program} {s : Fs} {w : World} {Q : Exit → Fs → World → Prop} {B : Nat} {w0 : World} {l0 : List Nat} {g : Operand} {ps : Array Tmp} {assign body : Code} {gf : Nat} {lb : Array Value} {pre R : List Asn}
    {post : Loop → Nat → Value → List Asn → Prop} {lo : Nat} {rc0 : Loop}
    (hs : St B w0 l0 w (pre ++ (blk lo (.loop rc0) :: R))) (hr : s.r = some lo) (hg : evS s g = .func (.func gf) #[] lb) (hf : ∀ args w, (callFunc gf args).run P w = .ok (.enter gf args) w)
    (hc : ∀ (rc : Loop) (l : Nat) (w1 : World), rc.tmps.size = s.n → (∀ i, rc.tmps.getD i undef = s.f i) → rc.state = .ready → rc.pending = none → rc.params = ps → rc.assign = assign → rc.body = body →
      St B w0 l0 w1 (blk l (.loop rc) :: (pre ++ (blk lo (.loop rc0) :: R))) → Spec P gf (#[.func (.yield l) #[] #[]] ++ lb) B w1 (blk l (.loop rc) :: pre) (post rc l))
    (hk : ∀ (rc : Loop) (l : Nat) (v : Value) (H' : List Asn), post rc l v H' → ∃ rc' H'', rc'.state ≠ .busy ∧ H' = blk l (.loop rc') :: H'' ∧
      ∀ w3, St B w0 l0 w3 (H'' ++ (blk lo (.loop rc0) :: R)) → match rc'.pending with
        | none => Q .normal s w3
        | some c => W P c s w3 Q) : W P (.rangeFunc g ps assign body) s w Q := by
  refine ⟨fun x hx => ?_⟩
  rw [hr]
  refine wpIn_rangeFunc ?_
  intro fn _
  obtain ⟨rc, hrc⟩ : ∃ rc : Loop, rc = { state := .ready, pending := none, fn, tmps := x.tmps, params := ps, assign, body, defers := rc0.defers } := ⟨_, rfl⟩
  have hB := hs.size
  have hlo : w.heap[lo]? = some (.loop rc0) := by
    refine hs.heapAt pre.length ?_
    simp
  have hs2 : St B w0 l0 (w.alloc (.loop rc)) (blk w.heap.size (.loop rc) :: (pre ++ (blk lo (.loop rc0) :: R))) := by
    refine St.step0 (post := [blk w.heap.size (.loop rc)]) hs ⟨[w.heap.size], ⟨[w.heap.size], [], ⟨hB, heap_alloc_new w _, rfl⟩, fun c => by simp, fun c _ => by simp, by simp⟩, rfl, rfl, rfl, by simp, fun c hc _ => Below.heap_alloc _ _ _ hc, fun c hc => .inr (by simp only [List.mem_singleton] at hc; omega)⟩
  have hspec := hc rc w.heap.size _ (by rw [hrc]; exact hx.1.1) (by rw [hrc]; exact hx.2) (by rw [hrc]) (by rw [hrc]) (by rw [hrc]) (by rw [hrc]) (by rw [hrc]) hs2
  have hs3 : St B w0 l0 (w.alloc (.loop rc)) ((blk w.heap.size (.loop rc) :: pre) ++ (blk lo (.loop rc0) :: R)) := hs2
  obtain ⟨l1, s1, key⟩ := hs3.part
  refine ⟨w.heap.size, [], w.alloc (.loop rc), { target := .fn (.func gf) lb, args := #[.func (.yield w.heap.size) #[] #[]] }, w.alloc (.loop rc), gf,
    #[.func (.yield w.heap.size) #[] #[]] ++ lb, w.alloc (.loop rc), by rw [show (fen (some lo)).round = some lo from rfl, run_enterLoop_inner hlo, ← hrc], ?_, fun _ _ => trivial, ?_, fen_depth, ?_⟩
  · simp only [resolve, ev_rel hx, hg]
    simp [go_sem]
    rfl
  · simp [invoke, go_sem, hf]
  · refine calls_fen (Calls.mono (hspec l1 hs3.size s1) ?_)
    rintro e w3 ⟨v, rfl, H', l', hp, hsep, hu⟩
    obtain ⟨rc', H'', hne, rfl, hfin⟩ := hk rc _ v H' hp
    have hs4 := key w3 _ l' hsep hu
    have hs5 := putObj_blk (.loop { rc' with state := .exhausted }) hs4
    have hs6 := hs5.drop
    refine ⟨rc'.pending, _, run_endLoop (hs4.heapAt 0 rfl) hne, ?_⟩
    have h8 := hfin _ hs6
    have hrel : Rel { x with defers := [] ++ x.defers } s := hx
    cases hpe : rc'.pending with
    | none => rw [hpe] at h8; exact ⟨_, hrel, hr, h8⟩
    | some c =>
      rw [hpe] at h8
      have h9 := W.out h8 _ hrel
      rw [hr] at h9
      exact h9
theorem W.roundsIn {G GZ : Type} {P : Program} {s : Fs} {w : World} {Q : Exit → Fs → World → Prop} {B : Nat} {w0 : World} {l0 : List Nat} {g : Operand} {ps : Array Tmp} {assign body : Code} {gf : Nat} {lb : Array Value} {lo : Nat} {rc0 : Loop}
    (n : Nat) (F : Nat → G → Prop) (Hs : G → List Asn) (c : Code) (FZ : GZ → Prop) (HsZ : GZ → List Asn) (own : List Asn) (enc : Nat → Array Value) (s0 : Nat → Nat → Fs) (x0 : G) (h0 : F 0 x0)
    (hs : St B w0 l0 w ((own ++ Hs x0) ++ [blk lo (.loop rc0)])) (hr : s.r = some lo) (hg : evS s g = .func (.func gf) #[] lb) (hf : ∀ args w, (callFunc gf args).run P w = .ok (.enter gf args) w) (hsz : ∀ k, (enc k).size = ps.size)
    (hrel : ∀ (a : Array Value) (k l : Nat), a.size = s.n → (∀ i, a.getD i undef = s.f i) → Rel ⟨(ps.zip (enc k)).foldl (fun tmps (t, a) => tmps.setIfInBounds t a) a, []⟩ (s0 k l) ∧ (s0 k l).r = some l)
    (ar : Nat → Array Value) (har : ∀ l, #[.func (.yield l) #[] #[]] ++ lb = ar l)
    (iter : ∀ (l : Nat) (w1 : World) (Y : Nat → Asn) (Z : Asn), (∀ k, k < n → ∀ w', YSpec P l (enc k) B w' [Y k] (fun v H' => (v = .bool true ∧ H' = [Y (k + 1)]) ∨ (v = .bool false ∧ H' = [Z]))) →
      Spec P gf (ar l) B w1 (own ++ [Y 0]) (fun v H' => v = .tuple #[] ∧ (H' = own ++ [Y n] ∨ H' = own ++ [Z])))
    (round : ∀ (k : Nat), k < n → ∀ (rc : Loop) (l : Nat) (w' : World) (x : G), F k x → ∀ lf, St B w' lf w' (blk l (.loop rc) :: Hs x) → ∀ K : Fs → World → Prop, (∀ s' w1, St B w' lf w1 (blk l (.loop rc) :: Hs x) →
      (∀ w2, St B w' lf w2 (blk l (.loop { rc with state := .busy }) :: Hs x) → W P body s' w2 (rq B w' lf l rc (F (k + 1)) Hs c FZ HsZ)) → K s' w1) → W P assign (s0 k l) w' (seqQ K (fun _ _ _ => False)))
    (done : ∀ w3 x, F n x → St B w0 l0 w3 ((own ++ Hs x) ++ [blk lo (.loop rc0)]) → Q .normal s w3)
    (jump : ∀ w3 z, FZ z → St B w0 l0 w3 ((own ++ HsZ z) ++ [blk lo (.loop rc0)]) → W P c s w3 Q) : W P (.rangeFunc g ps assign body) s w Q := by
  refine W.rangeFuncIn (pre := own ++ Hs x0) (R := []) (post := fun rc l v H' => v = .tuple #[] ∧ ((∃ x, F n x ∧ H' = blk l (.loop rc) :: (own ++ Hs x)) ∨ (∃ z, FZ z ∧ H' = blk l (.loop { rc with state := .done, pending := some c }) :: (own ++ HsZ z))) ∧ rc.state = .ready ∧ rc.pending = none) hs hr hg hf ?_ ?_
  · intro rc l w1 h1 h2 h3 h4 h5 h6 h7 hs1
    have hyy : ∀ k, k < n → ∀ w', YSpec P l (enc k) B w' [YA l rc (F k) Hs] (fun v H' => (v = .bool true ∧ H' = [YA l rc (F (k + 1)) Hs]) ∨ (v = .bool false ∧ H' = [YA l { rc with state := .done, pending := some c } FZ HsZ])) := by
      intro k hk w'
      obtain ⟨hrl, hrr⟩ := hrel rc.tmps k l h1 h2
      rw [← h5] at hrl
      refine yspec_ghost h3 h4 (by rw [h5]; exact hsz k) (s0 k l) hrl hrr ?_
      intro x hF lf hs2
      have hw := round k hk rc l w' x hF lf hs2
      rw [← h6, ← h7] at hw
      exact hw
    have hit := iter l w1 (fun k => YA l rc (F k) Hs) (YA l { rc with state := .done, pending := some c } FZ HsZ) hyy
    rw [← har l] at hit
    intro lf hB hsep
    have st1 : St B w1 lf w1 (blk l (.loop rc) :: (own ++ Hs x0)) := St.begin hB hsep
    have hp1 : (blk l (.loop rc) :: (own ++ Hs x0)).Perm (blk l (.loop rc) :: Hs x0 ++ own) := by
      simp only [List.cons_append]
      exact List.Perm.cons _ List.perm_append_comm
    have st2 := St.close (F := F 0) (Hs := fun x => blk l (.loop rc) :: Hs x) x0 h0 (st1.perm hp1)
    have st3 : St B w1 lf w1 (own ++ [YA l rc (F 0) Hs]) := st2.perm (List.perm_append_singleton _ _).symm
    have st4 : St B w1 lf w1 ((own ++ [YA l rc (F 0) Hs]) ++ []) := by simpa using st3
    obtain ⟨l1, s1, key⟩ := st4.part
    refine Calls.mono (hit l1 hB s1) ?_
    rintro e w3 ⟨v, rfl, H', l', ⟨rfl, hp⟩, hsep', hu⟩
    have fin : ∀ {G' : Type} (rc' : Loop) (F' : G' → Prop) (Hs' : G' → List Asn), H' = own ++ [YA l rc' F' Hs'] → ∃ x, F' x ∧ St B w1 lf w3 (blk l (.loop rc') :: (own ++ Hs' x)) := by
      intro G' rc' F' Hs' hH
      subst hH
      have st5 := key w3 _ l' hsep' hu
      have st6 : St B w1 lf w3 (YA l rc' F' Hs' :: own) := by
        have : ((own ++ [YA l rc' F' Hs']) ++ []).Perm (YA l rc' F' Hs' :: own) := by rw [List.append_nil]; exact List.perm_append_singleton (YA l rc' F' Hs') own
        exact st5.perm this
      obtain ⟨x, hF, st7⟩ := St.open (F := F') (Hs := fun x => blk l (.loop rc') :: Hs' x) st6
      refine ⟨x, hF, st7.perm ?_⟩
      simp only [List.cons_append]
      exact List.Perm.cons _ List.perm_append_comm
    rcases hp with hp | hp
    · obtain ⟨x, hF, _, _, l5, h8, h9⟩ := fin _ _ _ hp
      exact ⟨_, rfl, _, l5, ⟨rfl, .inl ⟨x, hF, rfl⟩, h3, h4⟩, h8, h9⟩
    · obtain ⟨z, hz, _, _, l5, h8, h9⟩ := fin _ _ _ hp
      exact ⟨_, rfl, _, l5, ⟨rfl, .inr ⟨z, hz, rfl⟩, h3, h4⟩, h8, h9⟩
  · rintro rc l v H' ⟨rfl, hp, h3, h4⟩
    rcases hp with ⟨x, hF, rfl⟩ | ⟨z, hz, rfl⟩
    · refine ⟨rc, own ++ Hs x, (fun h => by have h' := h3.symm.trans h; cases h'), rfl, fun w3 hs3 => ?_⟩
      rw [h4]
      exact done w3 x hF hs3
    · refine ⟨{ rc with state := .done, pending := some c }, own ++ HsZ z, (fun h => by cases h), rfl, fun w3 hs3 => ?_⟩
      exact jump w3 z hz hs3
section
variable {P : Program} {ops : Array Oper} {i : Nat} {s : Fs} {w : World}
def intQ : Value → Option Int
  | .int _ k => some k
  | _ => none
theorem intQ_some {v : Value} {z : Int} (h : intQ v = some z) : ∃ k, v = .int k z := by
  unfold intQ at h
  split at h
  · rename_i k _
    cases h
    exact ⟨k, rfl⟩
  · cases h
def slice3Q (P : Program) (ops : Array Oper) (i : Nat) (s : Fs) : Option ((Option Addr × Nat × Nat) × Int × Int × Int × Nat) :=
  match opQ ops i s with
  | some o => match o.op with
    | .slice t x (some y1) (some y2) (some y3) => match P.underlying t, evS s x with
      | some (.slice e), .slice a n c => match P.info? e, intQ (evS s y1), intQ (evS s y2), intQ (evS s y3) with
        | some f, some l, some h, some m => some ((a, n, c), l, h, m, f.size)
        | _, _, _, _ => none
      | _, _ => none
    | _ => none
  | none => none
theorem runs_slice3 {a : Option Addr} {n c size : Nat} (k m z : Nat) (h1 : k ≤ m) (h2 : m ≤ z) (h3 : z ≤ c) (hq : slice3Q P ops i s = some ((a, n, c), (k : Int), (m : Int), (z : Int), size)) :
    RunsTo P ops i s w (.slice (if z = k then a else a.map (·.add (k * size))) (m - k) (z - k)) w := by
  unfold slice3Q at hq
  split at hq
  · rename_i o ho
    split at hq
    · rename_i t x y1 y2 y3 hop
      refine ⟨_, ho, ?_⟩
      split at hq
      · rename_i e a' n' c' hu hx
        split at hq
        · rename_i f l h mx hf hl hh hm
          simp only [Option.some.injEq, Prod.mk.injEq] at hq
          obtain ⟨⟨rfl, rfl, rfl⟩, rfl, rfl, rfl, rfl⟩ := hq
          obtain ⟨q1, e1⟩ := intQ_some hl
          obtain ⟨q2, e2⟩ := intQ_some hh
          obtain ⟨q3, e3⟩ := intQ_some hm
          have hso : (sizeOf e).run P w = .ok f.size w := by simp [sizeOf, typeInfo, hf]
          have hun := run_underlying (P := P) hu w
          have hb : ∀ (q : IntKind) (z y : Nat) (code : BoundsCode), z ≤ y → (Instr.sliceBound (.int q (z : Int)) y code).run P w = .ok z w := by
            intro q z y code hzy
            have : (0 : Int) ≤ (z : Int) ∧ (z : Int) ≤ (y : Int) := ⟨by omega, by omega⟩
            simp only [Instr.sliceBound, asIntOf, Sem.run_bind, Sem.run_pure, Result.andThen_ok, if_pos this, Int.toNat_natCast]
          have hbounds : (Instr.sliceBounds true n' c' (some (.int q1 (k : Int))) (some (.int q2 (m : Int))) (some (.int q3 (z : Int)))).run P w = .ok (k, m, z) w := by
            unfold Instr.sliceBounds
            simp only [Sem.run_bind, Sem.run_pure, Result.andThen_ok, hb q3 z c' _ h3, hb q2 m z _ h2, hb q1 k m _ h1]
          have hxx : (Instr.sliceAt t (.slice a' n' c') (some (.int q1 (k : Int))) (some (.int q2 (m : Int))) (some (.int q3 (z : Int)))).run P w = .ok (.slice (if z = k then a' else a'.map (·.add (k * f.size))) (m - k) (z - k)) w := by
            unfold Instr.sliceAt
            simp only [Sem.run_bind, hun, Result.andThen_ok]
            unfold Instr.slice
            simp only [Sem.run_bind, hun, Result.andThen_ok, hbounds, hso, Sem.run_pure]
          simp only [execOp, hop, hx, Option.map_some, e1, e2, e3, Sem.run_bind, hxx, Result.andThen_ok, Sem.run_pure]
        · cases hq
      · cases hq
    · cases hq
  · cases hq
end
end Go.Proofs.Ytmmclabkkigiaaa

set_option maxRecDepth 20000
namespace Go.Proofs.Ytmmclabkkigiaaa
open Go Go.RowKit
theorem chunk_spec {ba : Option Addr} {bn bc : Nat} (B : Nat) (w : World) : Spec Try.prog 92 #[(.slice ba bn bc), (zi 8)] B w [] (fun v H' => ∃ b1 b2, v = .func (.func 96) #[] #[ptr b1, ptr b2] ∧ H' = [zb b1 75 [(.slice ba bn bc)], zb b2 3 [(zi 8)]]) := by
 refine spec_Q Try.func92 rfl fun hs => ?_
 refine W.sr fun K1 hK1 => ?_
 refine zN [(.slice ba bn bc)] 75 hs fun b4 w2 hs3 => ?_
 refine zN [(zi 8)] 3 hs3 fun b7 w5 hs6 => ?_
 refine zE 1 (hK1 _ _ ?_)
 refine W.seq fun K8 hK8 => ?_
 refine W.sr fun K9 hK9 => ?_
 refine zL ⟨b7, 0, none⟩ (zi 8) (hs6.cellAt 0 rfl rfl) ?_
 refine zE 1 (hK9 _ _ ?_)
 refine W.cond_false false (by kernel_rfl) rfl ?_
 refine W.skip ?_
 refine hK8 _ _ ?_
 refine W.sr fun K10 hK10 => ?_
 refine zE 2 (hK10 _ _ ?_)
 refine W.ret ?_
 have hs11 := St.f1 hs6
 refine ret_of (.func (.func 96) #[] #[(zp b4), (zp b7)]) (by kernel_rfl) ⟨_, ⟨b4, b7, rfl, rfl⟩, hs11⟩
theorem back_spec {ba : Option Addr} {bn bc : Nat} (B : Nat) (w : World) : Spec Try.prog 93 #[(.slice ba bn bc)] B w [] (fun v H' => ∃ b1, v = .func (.func 97) #[] #[ptr b1] ∧ H' = [zb b1 75 [(.slice ba bn bc)]]) := by
 refine spec_Q Try.func93 rfl fun hs => ?_
 refine W.sr fun K1 hK1 => ?_
 refine zN [(.slice ba bn bc)] 75 hs fun b4 w2 hs3 => ?_
 refine zE 1 (hK1 _ _ ?_)
 refine W.sr fun K5 hK5 => ?_
 refine zE 2 (hK5 _ _ ?_)
 refine W.ret ?_
 refine ret_of (.func (.func 97) #[] #[(zp b4)]) (by kernel_rfl) ⟨_, ⟨b4, rfl, rfl⟩, hs3⟩
end Go.Proofs.Ytmmclabkkigiaaa

namespace Go.Proofs.Ytmmclabkkigiaaa
theorem mn_part {n k : Nat} (h : 8 * k < n) : mn 8 ((n - 8 * k : Nat) : Int) = ((partN n k : Nat) : Int) := by
  unfold mn partN; split <;> split <;> omega
open Go Go.RowKit
theorem part_adr (b q j : Nat) : adr ((some ⟨b, 0, none⟩ : Option Addr).map (·.add (8 * q * 1))) (j * 1) = ⟨b, 8 * q + j, none⟩ := by
  unfold adr Addr.add
  simp
  split <;> split <;> simp_all
theorem part_cell {w : World} {b q j : Nat} {C : Array Value} {e : TypeId} {fz : Nat × Nat} {v : Value} (h : w.heap[b]? = some (.cells C e fz)) (hv : C[8 * q + j]? = some v) :
    w.cell? (adr ((some ⟨b, 0, none⟩ : Option Addr).map (·.add (8 * q * 1))) (j * 1)) = some v := by
  rw [part_adr]
  simp only [World.cell?, h]
  exact hv
theorem drop_bytes {s : ByteArray} {C : Array Value} {q m : Nat} (hC : ∀ j, j < s.size → C[j]? = some (.int .u8 ((strNums s).getD j 0))) (hm : 8 * q + m ≤ s.size) : ∀ j, j < m → C[8 * q + j]? = some (.int .u8 (((strNums s).drop (8 * q)).getD j 0)) := by
  intro j hj
  rw [hC _ (by omega), List.getD_eq_getElem?_getD, List.getD_eq_getElem?_getD, List.getElem?_drop]
end Go.Proofs.Ytmmclabkkigiaaa

set_option maxRecDepth 20000
set_option maxHeartbeats 2000000
namespace Go.Proofs.Ytmmclabkkigiaaa
open Go Go.RowKit
theorem chunk1_spec {b0 bn bc c1 c2 yl : Nat} {Y : Nat → Asn} {Z : Asn} (B : Nat) (w : World) (hbc : bn ≤ bc) (hbm : bn ≤ 1000000) (hy : ∀ k : Nat, 8 * k < bn → ∀ w', YSpec Try.prog yl #[.slice ((some ⟨b0, 0, none⟩ : Option Addr).map (·.add (8 * k * 1))) (partN bn k) (partN bn k)] B w' [Y k] (fun v H' => (v = .bool true ∧ H' = [Y (k + 1)]) ∨ (v = .bool false ∧ H' = [Z]))) : Spec Try.prog 96 #[(.func (.yield yl) #[] #[]), (zp c1), (zp c2)] B w [zb c1 75 [(.slice (some ⟨b0, 0, none⟩) bn bc)], zb c2 3 [(zi 8)], Y 0] (fun v H' => v = .tuple #[] ∧ (H' = [zb c1 75 [(.slice (some ⟨b0, 0, none⟩) bn bc)], zb c2 3 [(zi 8)], Y ((bn + 7) / 8)] ∨ H' = [zb c1 75 [(.slice (some ⟨b0, 0, none⟩) bn bc)], zb c2 3 [(zi 8)], Z])) := by
 refine spec_W Try.func96 rfl fun l0 hs => ?_
 refine W.sr fun K1 hK1 => ?_
 refine zE 1 (hK1 _ _ ?_)
 refine W.block ?_
 refine W.loop (G := Nat) (fun | k, s_, w_ => (∃ us, s_ = slots 31 [(0, (.func (.yield yl) #[] #[])), (1, (zp c1)), (2, (zp c2)), (4, (zi ((8 * k : Nat) : Int)))] us) ∧ St B w l0 w_ [zb c1 75 [(.slice (some ⟨b0, 0, none⟩) bn bc)], zb c2 3 [(zi 8)], Y k] ∧ (8 * k < bn + 8)) (fun k => bn - 8 * k) 0 ⟨slots_intro _ (by kernel_rfl), hs, by omega⟩ ?_
 rintro k _ w2 ⟨⟨us, rfl⟩, hs3, hk0⟩
 refine W.seq fun K4 hK4 => ?_
 refine W.sr fun K5 hK5 => ?_
 refine zR 1 ?_
 refine zL ⟨c1, 0, none⟩ (.slice (some ⟨b0, 0, none⟩) bn bc) (hs3.cellAt 0 rfl rfl) ?_
 refine zE 2 (hK5 _ _ ?_)
 refine W.cond (decide (((8 * k : Nat) : Int) < (bn : Int))) (by kernel_rfl) (fun h6 => ?_) (fun h6 => ?_)
 ·
  have h6p := of_decide_eq_true h6
  refine W.skip ?_
  refine hK4 _ _ ?_
  refine W.seq fun K7 hK7 => ?_
  refine W.block ?_
  refine W.seq fun K8 hK8 => ?_
  have hs9 := hs3.drew
  refine W.regionD [(0, 0), (0, 0), (0, 0), (6, 6), (8, 8), (17, 17), (63, 32)] (fun w_ => St B w l0 w_ [zb c1 75 [(.slice (some ⟨b0, 0, none⟩) bn bc)], zb c2 3 [(zi 8)], Y k]) (by kernel_rfl) hs9 ?_
  refine zB 0 ⟨c2, 0, none⟩ (zi 8) (fun _ hS_ => (hS_.cellAt 1 rfl rfl)) hs9 ?_
  refine zB 1 ⟨c1, 0, none⟩ (.slice (some ⟨b0, 0, none⟩) bn bc) (fun _ hS_ => (hS_.cellAt 0 rfl rfl)) hs9 ?_
  refine zA (zi ((8 * k : Nat) : Int)) 2 hs9 ?_
  refine any_step 3 (by kernel_rfl) (by kernel_rfl) ?_
  refine ops_R (runs_suffix (a := (some ⟨b0, 0, none⟩)) (n := bn) (c := bc) (z := ((8 * k : Nat) : Int)) (size := 1) (8 * k) rfl (by omega) hbc (by omega) ⟨_, rfl⟩ (by kernel_rfl)) ?_
  refine ops_done (by kernel_rfl) ⟨hs9, ?_⟩
  refine zA (zi ((bn - 8 * k : Nat) : Int)) 4 hs9 ?_
  refine any_step 5 (by kernel_rfl) (by kernel_rfl) ?_
  have hp_ := part_pos (show 8 * k < bn by omega)
  have hmn_ : mn 8 ((bn - 8 * k : Nat) : Int) = ((partN bn k : Nat) : Int) := mn_part (by omega)
  refine ops_val (v := .int .i64 (mn 8 ((bn - 8 * k : Nat) : Int))) (v' := (zi ((partN bn k : Nat) : Int))) (by kernel_rfl) (congrArg (Value.int .i64) hmn_) ?_
  refine ops_done (by kernel_rfl) ⟨hs9, ?_⟩
  refine zA (zi ((partN bn k : Nat) : Int)) 6 hs9 ?_
  refine any_done (by kernel_rfl) ?_
  refine hK8 _ _ ?_
  refine W.sr fun K10 hK10 => ?_
  refine zR 1 ?_
  refine zL ⟨c1, 0, none⟩ (.slice (some ⟨b0, 0, none⟩) bn bc) (hs9.cellAt 0 rfl rfl) ?_
  refine zR 3 ?_
  have h11 : -9223372036854775808 ≤ (((8 * k : Nat) : Int) + ((partN bn k : Nat) : Int)) ∧ (((8 * k : Nat) : Int) + ((partN bn k : Nat) : Int)) ≤ 9223372036854775807 := by omega
  refine zI _ (wrap_i64 h11.1 h11.2) ?_
  refine zR 2 ?_
  have h12 : -9223372036854775808 ≤ (((8 * k : Nat) : Int) + ((partN bn k : Nat) : Int)) ∧ (((8 * k : Nat) : Int) + ((partN bn k : Nat) : Int)) ≤ 9223372036854775807 := by omega
  refine zI _ (wrap_i64 h12.1 h12.2) ?_
  refine ops_R (runs_slice3 (a := (some ⟨b0, 0, none⟩)) (n := bn) (c := bc) (size := 1) (8 * k) (8 * k + partN bn k) (8 * k + partN bn k) (by omega) (by omega) (by omega) (by kernel_rfl)) ?_
  rw [if_neg (by omega), Nat.add_sub_cancel_left]
  have hs13 := St.f2 hs9
  refine ops_yield (pre := [Y k]) (l := yl) hs13 (by kernel_rfl) (by kernel_rfl) (hy k (by omega) _) ?_
  rintro _ _ w14 (⟨rfl, rfl⟩ | ⟨rfl, rfl⟩) hs15
  ·
   have hs16 : St B w l0 w14 [Y (k + 1), zb c1 75 [(.slice (some ⟨b0, 0, none⟩) bn bc)], zb c2 3 [(zi 8)]] := hs15
   refine zE 1 (hK10 _ _ ?_)
   refine W.cond_false false (by kernel_rfl) rfl ?_
   refine W.skip ?_
   refine normal_block ?_
   refine hK7 _ _ ?_
   refine W.region ?_
   refine zR 1 ?_
   refine zL ⟨c2, 0, none⟩ (zi 8) (hs16.cellAt 2 rfl rfl) ?_
   have h17 : -9223372036854775808 ≤ (((8 * k : Nat) : Int) + 8) ∧ (((8 * k : Nat) : Int) + 8) ≤ 9223372036854775807 := by omega
   refine zI _ (wrap_i64 h17.1 h17.2) ?_
   refine zE 1 ?_
   have hs18 := St.f2 hs16
   have hs19 := St.f2 hs18
   exact ⟨k + 1, ⟨slots_intro _ (by kernel_rfl), hs19, by omega⟩, by omega⟩
  have hs20 : St B w l0 w14 [Z, zb c1 75 [(.slice (some ⟨b0, 0, none⟩) bn bc)], zb c2 3 [(zi 8)]] := hs15
  refine zE 1 (hK10 _ _ ?_)
  refine W.cond_true true (by kernel_rfl) rfl ?_
  refine W.ret (ret_block (ret_seq (ret_seq (ret_block ?_))))
  have hs21 := St.f2 hs20
  have hs22 := St.f2 hs21
  refine ret_of (.tuple #[]) (by kernel_rfl) ⟨_, ⟨rfl, .inr rfl⟩, hs22⟩
 have h6p := of_decide_eq_false h6
 refine W.exit (exit_seq (exit_seq (exit_here ?_)))
 have hn_ : k = (bn + 7) / 8 := by omega
 subst hn_
 refine ret_ofN (.tuple #[]) (by kernel_rfl) ⟨_, ⟨rfl, .inl rfl⟩, hs3⟩
end Go.Proofs.Ytmmclabkkigiaaa

set_option maxRecDepth 20000
set_option maxHeartbeats 2000000
namespace Go.Proofs.Ytmmclabkkigiaaa
open Go Go.RowKit
theorem back1_spec {b0 q m c1 yl : Nat} {C : Array Value} {e : TypeId} {xs : List Int} {Y : Nat → Asn} {Z : Asn} (B : Nat) (w : World) (hm : m ≤ 8) (hC : ∀ j, j < m → C[8 * q + j]? = some (.int .u8 (xs.getD j 0))) (hy : ∀ k : Nat, k < m → ∀ w', YSpec Try.prog yl #[.int .i64 ((m : Int) - 1 - (k : Int)), .int .u8 (xs.getD (m - 1 - k) 0)] B w' [Y k] (fun v H' => (v = .bool true ∧ H' = [Y (k + 1)]) ∨ (v = .bool false ∧ H' = [Z]))) : Spec Try.prog 97 #[(.func (.yield yl) #[] #[]), (zp c1)] B w [blk b0 (.cells C e (C.size, C.size + 1)), zb c1 75 [(.slice ((some ⟨b0, 0, none⟩ : Option Addr).map (·.add (8 * q * 1))) m m)], Y 0] (fun v H' => v = .tuple #[] ∧ (H' = [blk b0 (.cells C e (C.size, C.size + 1)), zb c1 75 [(.slice ((some ⟨b0, 0, none⟩ : Option Addr).map (·.add (8 * q * 1))) m m)], Y m] ∨ H' = [blk b0 (.cells C e (C.size, C.size + 1)), zb c1 75 [(.slice ((some ⟨b0, 0, none⟩ : Option Addr).map (·.add (8 * q * 1))) m m)], Z])) := by
 refine spec_W Try.func97 rfl fun l0 hs => ?_
 refine W.sr fun K1 hK1 => ?_
 refine zL ⟨c1, 0, none⟩ (.slice ((some ⟨b0, 0, none⟩ : Option Addr).map (·.add (8 * q * 1))) m m) (hs.cellAt 1 rfl rfl) ?_
 refine zR 1 ?_
 refine ops_val (v := .int .i64 (IntKind.i64.wrap ((m : Int) - 1))) (v' := .int .i64 ((m : Int) - 1 - ((0 : Nat) : Int))) (by kernel_rfl) (congrArg (Value.int .i64) ((wrap_i64 (by omega) (by omega)).trans (by omega))) ?_
 refine zE 1 (hK1 _ _ ?_)
 refine W.block ?_
 refine W.loop (G := Nat) (fun | k, s_, w_ => (∃ us, s_ = slots 19 [(0, (.func (.yield yl) #[] #[])), (1, (zp c1)), (3, (zi ((m : Int) - 1 - (k : Int))))] us) ∧ St B w l0 w_ [blk b0 (.cells C e (C.size, C.size + 1)), zb c1 75 [(.slice ((some ⟨b0, 0, none⟩ : Option Addr).map (·.add (8 * q * 1))) m m)], Y k] ∧ (k ≤ m)) (fun k => m - k) 0 ⟨slots_intro _ (by kernel_rfl), hs, by omega⟩ ?_
 rintro k _ w2 ⟨⟨us, rfl⟩, hs3, hk0⟩
 refine W.seq fun K4 hK4 => ?_
 refine W.sr fun K5 hK5 => ?_
 refine zE 2 (hK5 _ _ ?_)
 refine W.cond (decide (((m : Int) - 1 - (k : Int)) ≥ 0)) (by kernel_rfl) (fun h6 => ?_) (fun h6 => ?_)
 ·
  have h6p := of_decide_eq_true h6
  refine W.skip ?_
  refine hK4 _ _ ?_
  refine W.seq fun K7 hK7 => ?_
  refine W.block ?_
  refine W.sr fun K8 hK8 => ?_
  refine zR 2 ?_
  refine zL ⟨c1, 0, none⟩ (.slice ((some ⟨b0, 0, none⟩ : Option Addr).map (·.add (8 * q * 1))) m m) (hs3.cellAt 1 rfl rfl) ?_
  refine zR 1 ?_
  have hkm_ : k < m := by omega
  refine ops_R (v := .pointer (some (adr ((some ⟨b0, 0, none⟩ : Option Addr).map (·.add (8 * q * 1))) ((m - 1 - k) * 1)))) (runs_index (a := ((some ⟨b0, 0, none⟩ : Option Addr).map (·.add (8 * q * 1)))) (n := m) (z := ((m : Int) - 1 - (k : Int))) (size := 1) (m - 1 - k) (by omega) (by omega) ⟨_, rfl⟩ (by kernel_rfl)) ?_
  refine zL (adr ((some ⟨b0, 0, none⟩ : Option Addr).map (·.add (8 * q * 1))) ((m - 1 - k) * 1)) (.int .u8 (xs.getD (m - 1 - k) 0)) (part_cell (hs3.heapAt 0 rfl) (hC (m - 1 - k) (by omega))) ?_
  have hs9 := St.f2 hs3
  refine ops_yield (pre := [Y k]) (l := yl) hs9 (by kernel_rfl) (by kernel_rfl) (hy k (by omega) _) ?_
  rintro _ _ w10 (⟨rfl, rfl⟩ | ⟨rfl, rfl⟩) hs11
  ·
   have hs12 : St B w l0 w10 [Y (k + 1), blk b0 (.cells C e (C.size, C.size + 1)), zb c1 75 [(.slice ((some ⟨b0, 0, none⟩ : Option Addr).map (·.add (8 * q * 1))) m m)]] := hs11
   refine zE 1 (hK8 _ _ ?_)
   refine W.cond_false false (by kernel_rfl) rfl ?_
   refine W.skip ?_
   refine normal_block ?_
   refine hK7 _ _ ?_
   refine W.region ?_
   refine zR 1 ?_
   refine ops_val (v := .int .i64 (IntKind.i64.wrap (((m : Int) - 1 - (k : Int)) - 1))) (v' := .int .i64 ((m : Int) - 1 - ((k + 1 : Nat) : Int))) (by kernel_rfl) (congrArg (Value.int .i64) ((wrap_i64 (by omega) (by omega)).trans (by omega))) ?_
   refine zE 1 ?_
   have hs13 := St.f2 hs12
   have hs14 := St.f2 hs13
   exact ⟨k + 1, ⟨slots_intro _ (by kernel_rfl), hs14, by omega⟩, by omega⟩
  have hs15 : St B w l0 w10 [Z, blk b0 (.cells C e (C.size, C.size + 1)), zb c1 75 [(.slice ((some ⟨b0, 0, none⟩ : Option Addr).map (·.add (8 * q * 1))) m m)]] := hs11
  refine zE 1 (hK8 _ _ ?_)
  refine W.cond_true true (by kernel_rfl) rfl ?_
  refine W.ret (ret_block (ret_seq (ret_seq (ret_block ?_))))
  have hs16 := St.f2 hs15
  have hs17 := St.f2 hs16
  refine ret_of (.tuple #[]) (by kernel_rfl) ⟨_, ⟨rfl, .inr rfl⟩, hs17⟩
 have h6p := of_decide_eq_false h6
 refine W.exit (exit_seq (exit_seq (exit_here ?_)))
 have hn_ : k = m := by omega
 subst hn_
 refine ret_ofN (.tuple #[]) (by kernel_rfl) ⟨_, ⟨rfl, .inl rfl⟩, hs3⟩
end Go.Proofs.Ytmmclabkkigiaaa

set_option maxRecDepth 20000
set_option maxHeartbeats 2000000
namespace Go.Proofs.Ytmmclabkkigiaaa
open Go Go.RowKit
def opack_D27 (q25 : List Int) : Option (List Int) :=
 some q25
def opack_J3 (c22 : (List Int) → Option (List Int)) (q25 : List Int) (p72 : Int) : Option (List Int) :=
 need (q25.length + 1 ≤ 1000000000) <|
c22 (q25 ++ [p72])
def opack_D108 (c22 : (List Int) → Option (List Int)) (q25 : List Int) (p107 : Int) : Option (List Int) :=
 opack_J3 c22 q25 p107
def opack_R108 (tx_ : ByteArray) (k21 : Nat) (k99 : Nat) (c100 : Int → Option (List Int)) (p107 : Int) : Option (List Int) :=
 (some (((strNums tx_).drop (8 * k21)).getD ((partN tx_.size k21) - 1 - k99) 0)).bind fun r135 =>
need (0 ≤ r135 ∧ r135 ≤ 18446744073709551615) <|
c100 (bits .or .u64 (shlK .u64 p107 8) r135)
def opack_R27 (tx_ : ByteArray) (k21 : Nat) (c22 : (List Int) → Option (List Int)) (q25 : List Int) : Option (List Int) :=
 rounds (fun k_ c_ s_ => opack_R108 tx_ k21 k_ c_ s_) (fun s_ => opack_D108 c22 q25 s_) (partN tx_.size k21) 0 0
def opack_M (tx_ : ByteArray) : Option (List Int) :=
 need (tx_.size ≤ 1000000) <|
rounds (fun k_ c_ s_ => opack_R27 tx_ k_ c_ s_) (fun s_ => opack_D27 s_) ((tx_.size + 7) / 8) 0 ([])
theorem opack_walk {tx_ : ByteArray}  {r : List Int} (B : Nat) (w : World) (hm : opack_M tx_ = some r) : Spec Try.prog 82 #[(.string tx_)] B w [] (fun v H' => ∃ a' c', v = .slice a' r.length c' ∧ H' = [kU64.row a' c' r]) := by
 refine spec_Q Try.func82 rfl fun hs => ?_
 unfold opack_M at hm
 refine W.sr fun K1 hK1 => ?_
 refine zN [(.slice none 0 0)] 44 hs fun b4 w2 hs3 => ?_
 refine zD (hK1 _ _ ?_)
 refine W.seq fun K5 hK5 => ?_
 refine W.sr fun K6 hK6 => ?_
 refine zR 1 ?_
 refine ops_strBytes (b := tx_) (e := 5) hs3 (by kernel_rfl) (fun b7 c8 C9 w10 hc11 hC12 hs13 => ?_)
 refine ops_call0 hs13 (by kernel_rfl) (chunk_spec (ba := (some ⟨b7, 0, none⟩)) (bn := tx_.size) (bc := c8) B _) ?_
 rintro _ _ w16 ⟨b14, b15, rfl, rfl⟩ hs17
 have hs18 := St.ap2 hs17
 refine zD (hK6 _ _ ?_)
 refine W.block ?_
 obtain ⟨h19, hm⟩ := need_some hm
 refine W.norm (n := 25) (l := [(2, (zp b4)), (9, (.func (.func 96) #[] #[(zp b14), (zp b15)]))]) (by kernel_rfl) (fun us20 => ?_)
 have hs26 := St.knil kU64 hs18
 have hs32 := St.f4 hs26
 have hs33 := St.f1 hs32
 have hs34 := St.f4 hs33
 have hs35 := St.f4 hs34
 have hs36 := St.f4 hs35
 have hF37 : rounds (fun k_ c_ s_ => opack_R27 tx_ k_ c_ s_) (fun s_ => opack_D27 s_) (((tx_.size + 7) / 8) - 0) 0 ([]) = some r := by rw [Nat.sub_zero]; exact hm
 clear hm
 refine W.roundsA (G := (List Int) × (Option Addr) × Nat) (GZ := Unit) (gf := 96) (lb := #[(zp b14), (zp b15)]) ((tx_.size + 7) / 8) (fun k_ (q25, m23, m24) => rounds (fun k_ c_ s_ => opack_R27 tx_ k_ c_ s_) (fun s_ => opack_D27 s_) (((tx_.size + 7) / 8) - k_) k_ q25 = some r) (fun (q25, m23, m24) => [blk b7 (.cells C9 5 (C9.size, C9.size + 1)), kU64.row m23 m24 q25, zb b4 44 [(.slice m23 q25.length m24)]]) .ret (fun (_ : Unit) => False) (fun _ => []) [zb b14 75 [(.slice (some ⟨b7, 0, none⟩) tx_.size c8)], zb b15 3 [(zi 8)]] (fun k_ => #[(.slice ((some ⟨b7, 0, none⟩ : Option Addr).map (·.add (8 * k_ * 1))) (partN tx_.size k_) (partN tx_.size k_))]) (fun k_ l_ => slotsD 25 ((10, (.slice ((some ⟨b7, 0, none⟩ : Option Addr).map (·.add (8 * k_ * 1))) (partN tx_.size k_) (partN tx_.size k_))) :: [(2, (zp b4)), (9, (.func (.func 96) #[] #[(zp b14), (zp b15)]))]) us20 (some l_) []) ([], none, 0) hF37 hs36 rfl (by kernel_rfl) (fun _ _ => by kernel_rfl) (fun _ => rfl) (fun a_ k_ l_ h1_ h2_ => ⟨rel_round1 (n := 25) (by decide) h1_ h2_, rfl⟩) (fun l_ => #[.func (.yield l_) #[] #[], (zp b14), (zp b15)]) (fun _ => rfl) (fun l_ w_ Y_ Z_ hy_ => chunk1_spec (yl := l_) (Y := Y_) (Z := Z_) (hbc := hc11) (hbm := h19) (hy := fun k_ h_ w_ => hy_ k_ (by omega) w_) _ w_) ?_ ?_ ?_
 rotate_left
 ·
  rintro D31 w38 ⟨q25, m23, m24⟩ hF40 hs39
  replace hF40 : rounds (fun k_ c_ s_ => opack_R27 tx_ k_ c_ s_) (fun s_ => opack_D27 s_) (((tx_.size + 7) / 8) - ((tx_.size + 7) / 8)) ((tx_.size + 7) / 8) q25 = some r := hF40
  rw [rounds_end] at hF40
  have hm : opack_D27 q25 = some r := hF40
  clear hF40
  unfold opack_D27 at hm
  have hs41 : St B w [] w38 [blk D31 (.deferred (some [])), zb b14 75 [(.slice (some ⟨b7, 0, none⟩) tx_.size c8)], zb b15 3 [(zi 8)], blk b7 (.cells C9 5 (C9.size, C9.size + 1)), kU64.row m23 m24 q25, zb b4 44 [(.slice m23 q25.length m24)]] := hs39
  refine normal_block ?_
  refine hK5 _ _ ?_
  refine W.sr fun K42 hK42 => ?_
  refine zL ⟨b4, 0, none⟩ (.slice m23 q25.length m24) (hs41.cellAt 5 rfl rfl) ?_
  have hs45 := St.f5 hs41
  refine zT 0 [(.slice m23 q25.length m24)] [(.slice m23 q25.length m24)] hs45 fun w43 hs46 => ?_
  refine zD (hK42 _ _ ?_)
  refine W.ret ?_
  obtain rfl := some_inj hm
  have hs47 := St.f5 hs46
  have hs48 := St.f5 hs47
  have hs49 := St.f5 hs48
  have hs50 := St.f5 hs49
  have hs51 := St.f4 hs50
  have hs52 := St.f5 hs51
  refine leave_mark (D := D31) (v := (.slice m23 q25.length m24)) hs52 (by kernel_rfl) (fun w53 hs54 => (resD_one rfl (.cell (ad := ⟨b4, 0, none⟩) (by kernel_rfl) (by kernel_rfl) (hs54.cellAt 0 rfl rfl)))) (fun w53 hs54 => ?_)
  have hs55 := St.f4 hs54
  have hs56 := St.tk1 hs55
  exact ⟨_, ⟨m23, m24, rfl, rfl⟩, hs56⟩
 ·
  rintro _ _ _ h_ _
  exact h_.elim
 rintro k21 hk57 rc29 l28 w58 ⟨q25, m23, m24⟩ hF62 lf59 hs60 K61 hK61
 replace hF62 : rounds (fun k_ c_ s_ => opack_R27 tx_ k_ c_ s_) (fun s_ => opack_D27 s_) (((tx_.size + 7) / 8) - k21) k21 q25 = some r := hF62
 rw [rounds_at hk57] at hF62
 obtain ⟨c22, hc22⟩ : ∃ c_, c_ = rounds (fun k_ c_ s_ => opack_R27 tx_ k_ c_ s_) (fun s_ => opack_D27 s_) (((tx_.size + 7) / 8) - (k21 + 1)) (k21 + 1) := ⟨_, rfl⟩
 rw [← hc22] at hF62
 have hm : opack_R27 tx_ k21 c22 q25 = some r := hF62
 clear hF62
 unfold opack_R27 at hm
 refine W.region ?_
 refine zE 1 ?_
 refine hK61 _ _ hs60 (fun w63 hs64 => ?_)
 refine W.block ?_
 refine W.sr fun K65 hK65 => ?_
 refine zN [(zu 0)] 58 hs64 fun b68 w66 hs67 => ?_
 refine zT 0 [(zu 0)] [(zu 0)] hs67 fun w69 hs71 => ?_
 refine zD (hK65 _ _ ?_)
 refine W.seq_join (fun s_ w_ => ∃ (p72 : Int), (∃ us, s_ = slotsD 25 [(2, (zp b4)), (4, (zp b68))] us (some l28) []) ∧ St B w58 lf59 w_ [kU64.row m23 m24 q25, zb b4 44 [(.slice m23 q25.length m24)], zb b68 58 [(zu p72)], blk l28 (.loop { rc29 with state := .busy }), blk b7 (.cells C9 5 (C9.size, C9.size + 1))] ∧ opack_J3 c22 q25 p72 = some r) ?_ ?_
 ·
  rintro _ w73 ⟨p72, ⟨us, rfl⟩, hs74, hm⟩
  unfold opack_J3 at hm
  refine W.region ?_
  refine zL ⟨b4, 0, none⟩ (.slice m23 q25.length m24) (hs74.cellAt 1 rfl rfl) ?_
  refine zL ⟨b68, 0, none⟩ (zu p72) (hs74.cellAt 2 rfl rfl) ?_
  refine ops_new (fun b => .slice (some ⟨b, 0, none⟩) 1 1) (.cells [(zu p72)].toArray 58 (0, 0)) hs74 (by kernel_rfl) (fun b77 w75 hs76 => ?_)
  have hs78 := St.f1 hs76
  obtain ⟨h83, hm⟩ := need_some hm
  refine ops_appendK kU64 (bytes := 8) (a' := (some ⟨b77, 0, none⟩)) (c' := 1) (l := q25) (m := [p72]) hs78 (by kernel_rfl) (by simp) (cells_blk (hs78.heapAt 1 rfl)) (by unfold maxLen; (try simp only [List.length_cons, List.length_nil]); omega) (by (try simp only [List.length_cons, List.length_nil]); omega) (fun a79 c80 w81 hs82 => ?_)
  have hs86 := St.f2 hs82
  refine zT 0 [(.slice a79 ((q25 ++ [p72]).length) c80)] [(.slice a79 ((q25 ++ [p72]).length) c80)] hs86 fun w84 hs87 => ?_
  refine zD ?_
  refine normal_block ?_
  have hs88 := St.f1 hs87
  have hs89 := St.f5 hs88
  have hs90 := St.f5 hs89
  have hs91 := St.tk4 hs90
  rw [hc22] at hm
  exact ⟨((q25 ++ [p72]), a79, c80), hm, hs91⟩
 refine W.sr fun K92 hK92 => ?_
 refine zR 1 ?_
 refine ops_call0 hs71 (by kernel_rfl) (back_spec (ba := ((some ⟨b7, 0, none⟩ : Option Addr).map (·.add (8 * k21 * 1)))) (bn := (partN tx_.size k21)) (bc := (partN tx_.size k21)) B _) ?_
 rintro _ _ w94 ⟨b93, rfl, rfl⟩ hs95
 have hs96 := St.ap1 hs95
 refine zD (hK92 _ _ ?_)
 refine W.block ?_
 have hp97 := part_pos (n := tx_.size) (k := k21) (by omega)
 refine W.normD (n := 25) (r := some l28) (d := []) (l := [(2, (zp b4)), (4, (zp b68)), (12, (.func (.func 97) #[] #[(zp b93)]))]) (by kernel_rfl) (fun us98 => ?_)
 have hs101 := St.f2 hs96
 have hs102 := St.f5 hs101
 have hs103 := St.f5 hs102
 have hs104 := St.f4 hs103
 have hs105 := St.f4 hs104
 have hs106 := St.f5 hs105
 have hs113 := St.f5 hs106
 have hs114 := St.f5 hs113
 have hs115 := St.f5 hs114
 have hs116 := St.f5 hs115
 have hs117 := St.f5 hs116
 have hs118 := St.f5 hs117
 have hF119 : rounds (fun k_ c_ s_ => opack_R108 tx_ k21 k_ c_ s_) (fun s_ => opack_D108 c22 q25 s_) ((partN tx_.size k21) - 0) 0 0 = some r := by rw [Nat.sub_zero]; exact hm
 clear hm
 refine W.roundsIn (G := Int) (GZ := Unit) (gf := 97) (lb := #[(zp b93)]) (partN tx_.size k21) (fun k_ p107 => rounds (fun k_ c_ s_ => opack_R108 tx_ k21 k_ c_ s_) (fun s_ => opack_D108 c22 q25 s_) ((partN tx_.size k21) - k_) k_ p107 = some r) (fun p107 => [zb b68 58 [(zu p107)], kU64.row m23 m24 q25, zb b4 44 [(.slice m23 q25.length m24)]]) .ret (fun (_ : Unit) => False) (fun _ => []) [blk b7 (.cells C9 5 (C9.size, C9.size + 1)), zb b93 75 [(.slice ((some ⟨b7, 0, none⟩ : Option Addr).map (·.add (8 * k21 * 1))) (partN tx_.size k21) (partN tx_.size k21))]] (fun k_ => #[(zi (((partN tx_.size k21) : Int) - 1 - (k_ : Int))), (.int .u8 (((strNums tx_).drop (8 * k21)).getD ((partN tx_.size k21) - 1 - k_) 0))]) (fun k_ l_ => slotsD 25 ((14, (.int .u8 (((strNums tx_).drop (8 * k21)).getD ((partN tx_.size k21) - 1 - k_) 0))) :: (13, (zi (((partN tx_.size k21) : Int) - 1 - (k_ : Int)))) :: [(2, (zp b4)), (4, (zp b68)), (12, (.func (.func 97) #[] #[(zp b93)]))]) us98 (some l_) []) 0 hF119 hs118 rfl (by kernel_rfl) (fun _ _ => by kernel_rfl) (fun _ => rfl) (fun a_ k_ l_ h1_ h2_ => ⟨rel_round2 (n := 25) (by decide) (by decide) h1_ h2_, rfl⟩) (fun l_ => #[.func (.yield l_) #[] #[], (zp b93)]) (fun _ => rfl) (fun l_ w_ Y_ Z_ hy_ => back1_spec (yl := l_) (q := k21) (Y := Y_) (Z := Z_) (hm := hp97.2.1) (hC := drop_bytes hC12 (by omega)) (hy := fun k_ h_ w_ => hy_ k_ h_ w_) _ w_) ?_ ?_ ?_
 rotate_left
 ·
  rintro  w120 p107 hF122 hs121
  replace hF122 : rounds (fun k_ c_ s_ => opack_R108 tx_ k21 k_ c_ s_) (fun s_ => opack_D108 c22 q25 s_) ((partN tx_.size k21) - (partN tx_.size k21)) (partN tx_.size k21) p107 = some r := hF122
  rw [rounds_end] at hF122
  have hm : opack_D108 c22 q25 p107 = some r := hF122
  clear hF122
  unfold opack_D108 at hm
  have hs123 : St B w58 lf59 w120 [blk b7 (.cells C9 5 (C9.size, C9.size + 1)), zb b93 75 [(.slice ((some ⟨b7, 0, none⟩ : Option Addr).map (·.add (8 * k21 * 1))) (partN tx_.size k21) (partN tx_.size k21))], zb b68 58 [(zu p107)], kU64.row m23 m24 q25, zb b4 44 [(.slice m23 q25.length m24)], blk l28 (.loop { rc29 with state := .busy })] := hs121
  refine normal_block ?_
  have hs124 := St.f5 hs123
  have hs125 := St.f3 hs124
  have hs126 := St.f5 hs125
  have hs127 := St.f5 hs126
  have hs128 := St.tk5 hs127
  exact ⟨p107, slotsD_intro _ (by kernel_rfl), hs128, hm⟩
 ·
  rintro _ _ h_ _
  exact h_.elim
 rintro k99 hk129 rc110 l109 w130 p107 hF134 lf131 hs132 K133 hK133
 replace hF134 : rounds (fun k_ c_ s_ => opack_R108 tx_ k21 k_ c_ s_) (fun s_ => opack_D108 c22 q25 s_) ((partN tx_.size k21) - k99) k99 p107 = some r := hF134
 rw [rounds_at hk129] at hF134
 obtain ⟨c100, hc100⟩ : ∃ c_, c_ = rounds (fun k_ c_ s_ => opack_R108 tx_ k21 k_ c_ s_) (fun s_ => opack_D108 c22 q25 s_) ((partN tx_.size k21) - (k99 + 1)) (k99 + 1) := ⟨_, rfl⟩
 rw [← hc100] at hF134
 have hm : opack_R108 tx_ k21 k99 c100 p107 = some r := hF134
 clear hF134
 unfold opack_R108 at hm
 refine W.region ?_
 refine zR 1 ?_
 obtain ⟨r135, h136, hm⟩ := bind_some hm
 replace h136 := some_inj h136
 refine ops_set 6 (v := .int .u8 r135) (Eq.trans (by kernel_rfl) (congrArg (Value.int .u8) h136)) ?_
 refine zD ?_
 refine hK133 _ _ hs132 (fun w137 hs138 => ?_)
 refine W.block ?_
 refine W.region ?_
 refine zL ⟨b68, 0, none⟩ (zu p107) (hs138.cellAt 1 rfl rfl) ?_
 refine zR 2 ?_
 obtain ⟨h139, hm⟩ := need_some hm
 refine zI _ (wrap_u64 h139.1 (Int.lt_of_le_of_lt h139.2 (by decide))) ?_
 refine zR 1 ?_
 have hs142 := St.f1 hs138
 refine zT 0 [(zu (bits .or .u64 (shlK .u64 p107 8) r135))] [(zu (bits .or .u64 (shlK .u64 p107 8) r135))] hs142 fun w140 hs143 => ?_
 refine zD ?_
 refine normal_block ?_
 have hs144 := St.f3 hs143
 have hs145 := St.f3 hs144
 have hs146 := St.f2 hs145
 have hs147 := St.f3 hs146
 rw [hc100] at hm
 exact ⟨(bits .or .u64 (shlK .u64 p107 8) r135), hm, hs147⟩
end Go.Proofs.Ytmmclabkkigiaaa

set_option maxRecDepth 20000
set_option maxHeartbeats 2000000
namespace Go.Proofs.Ytmmclabkkigiaaa
open Go Go.RowKit
def ebegin_M (tx_ : ByteArray) : Option (Int) :=
 (emay_M tx_).bind fun r4 =>
if r4 = true then ((opack_M tx_).bind fun r13 =>
(sumof_M r13).bind fun r18 =>
need (-9223372036854775808 ≤ (r18.tmod 12) ∧ (r18.tmod 12) ≤ 9223372036854775807) <|
some (r18.tmod 12)) else (some 0)
theorem ebegin_walk {tx_ : ByteArray}  {r : Int} (B : Nat) (w : World) (hm : ebegin_M tx_ = some r) : Spec Try.prog 75 #[(.string tx_)] B w [] (fun v H' => v = .int .i64 r ∧ H' = []) := by
 refine spec_Q Try.func75 rfl fun hs => ?_
 unfold ebegin_M at hm
 refine W.sr fun K1 hK1 => ?_
 refine zE 1 (hK1 _ _ ?_)
 refine W.seq fun K2 hK2 => ?_
 refine W.sr fun K3 hK3 => ?_
 refine zR 1 ?_
 obtain ⟨r4, h5, hm⟩ := bind_some hm
 refine zC00 hs (emay_walk (tx_ := tx_) (hm := h5) B _) fun w6 hs8 => ?_
 refine zE 1 (hK3 _ _ ?_)
 refine W.cond (!r4) (by kernel_rfl) (fun h9 => ?_) (fun h9 => ?_)
 rotate_left
 ·
  have h9p : r4 = true := (bnot_false h9)
  replace hm := ite_yes hm h9p
  refine W.skip ?_
  refine hK2 _ _ ?_
  refine W.sr fun K10 hK10 => ?_
  refine zR 1 ?_
  obtain ⟨r13, h14, hm⟩ := bind_some hm
  refine ops_call0 hs8 (by kernel_rfl) (opack_walk (hm := h14) B _) ?_
  rintro _ _ w15 ⟨a11, c12, rfl, rfl⟩ hs16
  have hs17 := St.ap1 hs16
  obtain ⟨r18, h19, hm⟩ := bind_some hm
  refine zC11 hs17 (sumof_walk (wa := a11) (wc := c12) (ws := r13) (hm := h19) B _) fun w20 hs22 => ?_
  refine zR 1 ?_
  obtain ⟨h23, hm⟩ := need_some hm
  refine zI _ (wrap_i64 h23.1 h23.2) ?_
  refine zE 1 (hK10 _ _ ?_)
  refine W.ret ?_
  obtain rfl := some_inj hm
  have hs24 := St.tk0 hs22
  refine ret_of (zi (r18.tmod 12)) (by kernel_rfl) ⟨_, ⟨rfl, rfl⟩, hs24⟩
 have h9p : ¬ (r4 = true) := ne_true_of_eq_false (bnot_true h9)
 replace hm := ite_no hm h9p
 refine W.sr fun K25 hK25 => ?_
 refine zE 1 (hK25 _ _ ?_)
 refine W.ret (ret_seq ?_)
 obtain rfl := some_inj hm
 refine ret_of (zi 0) (by kernel_rfl) ⟨_, ⟨rfl, rfl⟩, hs8⟩
end Go.Proofs.Ytmmclabkkigiaaa

set_option maxRecDepth 20000
set_option maxHeartbeats 2000000
namespace Go.Proofs.Ytmmclabkkigiaaa
open Go Go.RowKit
theorem around_spec {f_ : Int} (B : Nat) (w : World) : Spec Try.prog 74 #[(zi f_)] B w [] (fun v H' => ∃ b1, v = .func (.func 80) #[] #[ptr b1] ∧ H' = [zb b1 3 [(zi f_)]]) := by
 refine spec_Q Try.func74 rfl fun hs => ?_
 refine W.sr fun K1 hK1 => ?_
 refine zN [(zi f_)] 3 hs fun b4 w2 hs3 => ?_
 refine zE 1 (hK1 _ _ ?_)
 refine W.sr fun K5 hK5 => ?_
 refine zE 2 (hK5 _ _ ?_)
 refine W.ret ?_
 refine ret_of (.func (.func 80) #[] #[(zp b4)]) (by kernel_rfl) ⟨_, ⟨b4, rfl, rfl⟩, hs3⟩
theorem around1_spec {c1 yl : Nat} {f_ : Int} {Y : Nat → Asn} {Z : Asn} (B : Nat) (w : World) (hf : 0 ≤ f_ ∧ f_ ≤ 12) (hy : ∀ k : Nat, k < 12 → ∀ w', YSpec Try.prog yl #[(zi ((f_ + (k : Int)) % 12))] B w' [Y k] (fun v H' => (v = .bool true ∧ H' = [Y (k + 1)]) ∨ (v = .bool false ∧ H' = [Z]))) : Spec Try.prog 80 #[(.func (.yield yl) #[] #[]), (zp c1)] B w [zb c1 3 [(zi f_)], Y 0] (fun v H' => v = .tuple #[] ∧ (H' = [zb c1 3 [(zi f_)], Y 12] ∨ H' = [zb c1 3 [(zi f_)], Z])) := by
 refine spec_W Try.func80 rfl fun l0 hs => ?_
 refine W.sr fun K1 hK1 => ?_
 refine zE 1 (hK1 _ _ ?_)
 refine W.block ?_
 refine W.loop (G := Nat) (fun | k, s_, w_ => (∃ us, s_ = slots 15 [(0, (.func (.yield yl) #[] #[])), (1, (zp c1)), (4, (zi ((k : Nat) : Int)))] us) ∧ St B w l0 w_ [zb c1 3 [(zi f_)], Y k] ∧ (k ≤ 12)) (fun k => 12 - k) 0 ⟨slots_intro _ (by kernel_rfl), hs, by omega⟩ ?_
 rintro k _ w2 ⟨⟨us, rfl⟩, hs3, hk0⟩
 refine W.sr fun K4 hK4 => ?_
 refine zE 1 (hK4 _ _ ?_)
 refine W.seq fun K5 hK5 => ?_
 refine W.cond (decide (((k : Nat) : Int) < 12)) (by kernel_rfl) (fun h6 => ?_) (fun h6 => ?_)
 ·
  have h6p := of_decide_eq_true h6
  refine W.skip ?_
  refine hK5 _ _ ?_
  refine W.seq fun K7 hK7 => ?_
  refine W.block ?_
  refine W.sr fun K8 hK8 => ?_
  refine zE 2 (hK8 _ _ ?_)
  refine W.sr fun K9 hK9 => ?_
  refine zR 1 ?_
  refine zL ⟨c1, 0, none⟩ (zi f_) (hs3.cellAt 0 rfl rfl) ?_
  refine zR 1 ?_
  have h10 : -9223372036854775808 ≤ (f_ + ((k : Nat) : Int)) ∧ (f_ + ((k : Nat) : Int)) ≤ 9223372036854775807 := by omega
  refine zI _ (wrap_i64 h10.1 h10.2) ?_
  have h11 : 0 ≤ (f_ + ((k : Nat) : Int)) := by omega
  refine ops_R (v := .int .i64 ((f_ + ((k : Nat) : Int)) % 12)) (runs_rem (k := .i64) (a := (f_ + ((k : Nat) : Int))) (b := 12) (by kernel_rfl) (by decide) (Int.tmod_eq_emod_of_nonneg h11)) ?_
  have hs12 := St.f1 hs3
  refine ops_yield (pre := [Y k]) (l := yl) hs12 (by kernel_rfl) (by kernel_rfl) (hy k (by omega) _) ?_
  rintro _ _ w13 (⟨rfl, rfl⟩ | ⟨rfl, rfl⟩) hs14
  ·
   have hs15 : St B w l0 w13 [Y (k + 1), zb c1 3 [(zi f_)]] := hs14
   refine zE 1 (hK9 _ _ ?_)
   refine W.cond_false false (by kernel_rfl) rfl ?_
   refine W.skip ?_
   refine normal_block ?_
   refine hK7 _ _ ?_
   refine W.region ?_
   have h16 : -9223372036854775808 ≤ (((k : Nat) : Int) + 1) ∧ (((k : Nat) : Int) + 1) ≤ 9223372036854775807 := by omega
   refine zI _ (wrap_i64 h16.1 h16.2) ?_
   refine zE 1 ?_
   have hs17 := St.f1 hs15
   exact ⟨k + 1, ⟨slots_intro _ (by kernel_rfl), hs17, by omega⟩, by omega⟩
  have hs18 : St B w l0 w13 [Z, zb c1 3 [(zi f_)]] := hs14
  refine zE 1 (hK9 _ _ ?_)
  refine W.cond_true true (by kernel_rfl) rfl ?_
  refine W.ret (ret_block (ret_seq (ret_seq (ret_block ?_))))
  have hs19 := St.f1 hs18
  refine ret_of (.tuple #[]) (by kernel_rfl) ⟨_, ⟨rfl, .inr rfl⟩, hs19⟩
 have h6p := of_decide_eq_false h6
 refine W.exit (exit_seq (exit_seq (exit_here ?_)))
 have hn_ : k = 12 := by omega
 subst hn_
 refine ret_ofN (.tuple #[]) (by kernel_rfl) ⟨_, ⟨rfl, .inl rfl⟩, hs3⟩
end Go.Proofs.Ytmmclabkkigiaaa

set_option maxRecDepth 20000
set_option maxHeartbeats 8000000
namespace Go.Proofs.Ytmmclabkkigiaaa
open Go Go.RowKit
def tfind_D40  : Option (ByteArray × Int × Int × Int) :=
 some (ByteArray.empty, 0, 0, 6)
def tfind_X40 (p41 : Int) (p42 : Int) (p43 : ByteArray) (p44 : Int) : Option (ByteArray × Int × Int × Int) :=
 some (p43, p44, p42, p41)
def tfind_R40 (img : List Int) (l : List (Int × Int)) (gw : Int) (gi : Int) (gb : Int) (n_ : Int) (tx_ : ByteArray) (r27 : Int) (k38 : Nat) (c39 : Unit → Option (ByteArray × Int × Int × Int)) : Option (ByteArray × Int × Int × Int) :=
 (some (((r27 : Int) + (k38 : Int)) % 12)).bind fun r104 =>
(tentry_M img l gw gi gb n_ r104).bind fun r109 =>
if r109.2.2 = 0 then (if r109.1 = tx_ ∧ r109.2.1 = r109.2.1 then (tfind_X40 0 r104 r109.1 r109.2.1) else (c39 ())) else (tfind_X40 r109.2.2 0 ByteArray.empty 0)
def tfind_M (img : List Int) (l : List (Int × Int)) (gw : Int) (gi : Int) (gb : Int) (n_ : Int) (tx_ : ByteArray) : Option (ByteArray × Int × Int × Int) :=
 (emay_M tx_).bind fun r19 =>
if r19 = true then ((ebegin_M tx_).bind fun r27 =>
need ((0 : Int) ≤ r27 ∧ (r27 : Int) ≤ 12) <|
rounds (fun k_ c_ s_ => tfind_R40 img l gw gi gb n_ tx_ r27 k_ c_) (fun s_ => tfind_D40) 12 0 ()) else (some (ByteArray.empty, 0, 0, 13))
theorem tfind_walk {img : List Int} {l : List (Int × Int)} {gw : Int} {gi : Int} {gb : Int} {n_ : Int} {tx_ : ByteArray} {mb vb : Nat} {r : ByteArray × Int × Int × Int} (B : Nat) (w : World) (hm : tfind_M img l gw gi gb n_ tx_ = some r) : Spec Try.prog 61 #[(.agg #[(zp vb), (zi gw), (zi gi), (zi gb), (zp mb)]), (.string tx_)] B w [zb mb 138 [(zp vb), (zi gw), (zi gi), (zi gb), (zi n_)], viewA (ptr vb) img l] (fun v H' => v = (.tuple #[(.agg #[(.string r.1), (zi r.2.1)]), (zi r.2.2.1), (zi r.2.2.2)]) ∧ H' = [zb mb 138 [(zp vb), (zi gw), (zi gi), (zi gb), (zi n_)], viewA (ptr vb) img l]) := by
 refine spec_W Try.func61 rfl fun l0 hs => ?_
 unfold tfind_M at hm
 refine W.sr fun K1 hK1 => ?_
 refine zN [(zp vb), (zi gw), (zi gi), (zi gb), (zp mb)] 113 hs fun b4 w2 hs3 => ?_
 refine zN [(.string tx_)] 9 hs3 fun b7 w5 hs6 => ?_
 refine zN [(.string ByteArray.empty), (zi 0)] 89 hs6 fun b10 w8 hs9 => ?_
 refine zN [(zi 0)] 3 hs9 fun b13 w11 hs12 => ?_
 refine zN [(zi 0)] 24 hs12 fun b16 w14 hs15 => ?_
 refine zD (hK1 _ _ ?_)
 refine W.seq fun K17 hK17 => ?_
 refine W.sr fun K18 hK18 => ?_
 refine zL ⟨b7, 0, none⟩ (.string tx_) (hs15.cellAt 3 rfl rfl) ?_
 obtain ⟨r19, h20, hm⟩ := bind_some hm
 refine zC00 hs15 (emay_walk (tx_ := tx_) (hm := h20) B _) fun w21 hs23 => ?_
 refine zE 1 (hK18 _ _ ?_)
 refine W.cond (!r19) (by kernel_rfl) (fun h24 => ?_) (fun h24 => ?_)
 rotate_left
 ·
  have h24p : r19 = true := (bnot_false h24)
  replace hm := ite_yes hm h24p
  refine W.skip ?_
  refine hK17 _ _ ?_
  refine W.seq fun K25 hK25 => ?_
  refine W.sr fun K26 hK26 => ?_
  refine zL ⟨b7, 0, none⟩ (.string tx_) (hs23.cellAt 3 rfl rfl) ?_
  obtain ⟨r27, h28, hm⟩ := bind_some hm
  refine zC00 hs23 (ebegin_walk (tx_ := tx_) (hm := h28) B _) fun w29 hs31 => ?_
  refine ops_call0 hs31 (by kernel_rfl) (around_spec (f_ := r27) B _) ?_
  rintro _ _ w33 ⟨b32, rfl, rfl⟩ hs34
  have hs35 := St.ap1 hs34
  refine zD (hK26 _ _ ?_)
  refine W.block ?_
  obtain ⟨h36, hm⟩ := need_some hm
  refine W.norm (n := 37) (l := [(2, (zp b4)), (3, (zp b7)), (4, (zp b10)), (5, (zp b13)), (6, (zp b16)), (16, (.func (.func 80) #[] #[(zp b32)]))]) (by kernel_rfl) (fun us37 => ?_)
  have hs49 := St.f5 hs35
  have hs50 := St.f6 hs49
  have hs51 := St.f7 hs50
  have hs52 := St.f7 hs51
  have hs53 := St.f7 hs52
  have hs54 := St.f7 hs53
  have hs55 := St.f7 hs54
  have hs56 := St.f7 hs55
  have hF57 : rounds (fun k_ c_ s_ => tfind_R40 img l gw gi gb n_ tx_ r27 k_ c_) (fun s_ => tfind_D40) (12 - 0) 0 () = some r := by rw [Nat.sub_zero]; exact hm
  clear hm
  refine W.roundsA (G := Unit) (GZ := Int × Int × ByteArray × Int) (gf := 80) (lb := #[(zp b32)]) 12 (fun k_ _ => rounds (fun k_ c_ s_ => tfind_R40 img l gw gi gb n_ tx_ r27 k_ c_) (fun s_ => tfind_D40) (12 - k_) k_ () = some r) (fun _ => [zb b16 24 [(zi 0)], zb b13 3 [(zi 0)], zb b10 89 [(.string ByteArray.empty), (zi 0)], zb b7 9 [(.string tx_)], viewA (ptr vb) img l, zb mb 138 [(zp vb), (zi gw), (zi gi), (zi gb), (zi n_)], zb b4 113 [(zp vb), (zi gw), (zi gi), (zi gb), (zp mb)]]) .ret (fun (p41, p42, p43, p44) => tfind_X40 p41 p42 p43 p44 = some r) (fun (p41, p42, p43, p44) => [zb b16 24 [(zi p41)], zb b13 3 [(zi p42)], zb b10 89 [(.string p43), (zi p44)], zb b7 9 [(.string tx_)], viewA (ptr vb) img l, zb mb 138 [(zp vb), (zi gw), (zi gi), (zi gb), (zi n_)], zb b4 113 [(zp vb), (zi gw), (zi gi), (zi gb), (zp mb)]]) [zb b32 3 [(zi r27)]] (fun k_ => #[(zi (((r27 : Int) + (k_ : Int)) % 12))]) (fun k_ l_ => slotsD 37 ((17, (zi (((r27 : Int) + (k_ : Int)) % 12))) :: [(2, (zp b4)), (3, (zp b7)), (4, (zp b10)), (5, (zp b13)), (6, (zp b16)), (16, (.func (.func 80) #[] #[(zp b32)]))]) us37 (some l_) []) () hF57 hs56 rfl (by kernel_rfl) (fun _ _ => by kernel_rfl) (fun _ => rfl) (fun a_ k_ l_ h1_ h2_ => ⟨rel_round1 (n := 37) (by decide) h1_ h2_, rfl⟩) (fun l_ => #[.func (.yield l_) #[] #[], (zp b32)]) (fun _ => rfl) (fun l_ w_ Y_ Z_ hy_ => around1_spec (f_ := r27) (yl := l_) (Y := Y_) (Z := Z_) (hf := h36) (hy := fun k_ h_ w_ => hy_ k_ h_ w_) _ w_) ?_ ?_ ?_
  rotate_left
  ·
   rintro D48 w58 _ hF60 hs59
   replace hF60 : rounds (fun k_ c_ s_ => tfind_R40 img l gw gi gb n_ tx_ r27 k_ c_) (fun s_ => tfind_D40) (12 - 12) 12 () = some r := hF60
   rw [rounds_end] at hF60
   have hm : tfind_D40 = some r := hF60
   clear hF60
   unfold tfind_D40 at hm
   have hs61 : St B w l0 w58 [blk D48 (.deferred (some [])), zb b32 3 [(zi r27)], zb b16 24 [(zi 0)], zb b13 3 [(zi 0)], zb b10 89 [(.string ByteArray.empty), (zi 0)], zb b7 9 [(.string tx_)], viewA (ptr vb) img l, zb mb 138 [(zp vb), (zi gw), (zi gi), (zi gb), (zi n_)], zb b4 113 [(zp vb), (zi gw), (zi gi), (zi gb), (zp mb)]] := hs59
   refine normal_block ?_
   refine hK25 _ _ ?_
   refine W.sr fun K62 hK62 => ?_
   refine zR 1 ?_
   have hs65 := St.f4 hs61
   refine zT 0 [(.string ByteArray.empty), (zi 0)] [(.string ByteArray.empty), (zi 0)] hs65 fun w63 hs66 => ?_
   have hs69 := St.f4 hs66
   refine zT 0 [(zi 0)] [(zi 0)] hs69 fun w67 hs70 => ?_
   have hs73 := St.f4 hs70
   refine zT 0 [(zi 6)] [(zi 6)] hs73 fun w71 hs74 => ?_
   refine zD (hK62 _ _ ?_)
   refine W.ret ?_
   obtain rfl := some_inj hm
   have hs75 := St.f8 hs74
   have hs76 := St.f8 hs75
   have hs77 := St.f8 hs76
   have hs78 := St.f8 hs77
   have hs79 := St.f8 hs78
   have hs80 := St.f7 hs79
   have hs81 := St.f7 hs80
   have hs82 := St.f7 hs81
   have hs83 := St.f8 hs82
   refine leave_mark (D := D48) (v := (.tuple #[(.agg #[(.string ByteArray.empty), (zi 0)]), (zi 0), (zi 6)])) hs83 (by kernel_rfl) (fun w84 hs85 => (resD_three rfl (.agg (ad := ⟨b10, 0, none⟩) (cs := [(.string ByteArray.empty), (zi 0)]) (by kernel_rfl) (by kernel_rfl) (cells_sub (hs85.heapAt 2 rfl) rfl)) (.cell (ad := ⟨b13, 0, none⟩) (by kernel_rfl) (by kernel_rfl) (hs85.cellAt 1 rfl rfl)) (.cell (ad := ⟨b16, 0, none⟩) (by kernel_rfl) (by kernel_rfl) (hs85.cellAt 0 rfl rfl)))) (fun w84 hs85 => ?_)
   have hs86 := St.f5 hs85
   have hs87 := St.f6 hs86
   have hs88 := St.tk2 hs87
   exact ⟨_, ⟨rfl, rfl⟩, hs88⟩
  ·
   rintro D91 w89 ⟨p41, p42, p43, p44⟩ hm hs90
   replace hm : tfind_X40 p41 p42 p43 p44 = some r := hm
   unfold tfind_X40 at hm
   have hs92 : St B w l0 w89 [blk D91 (.deferred (some [])), zb b32 3 [(zi r27)], zb b16 24 [(zi p41)], zb b13 3 [(zi p42)], zb b10 89 [(.string p43), (zi p44)], zb b7 9 [(.string tx_)], viewA (ptr vb) img l, zb mb 138 [(zp vb), (zi gw), (zi gi), (zi gb), (zi n_)], zb b4 113 [(zp vb), (zi gw), (zi gi), (zi gb), (zp mb)]] := hs90
   refine W.ret (ret_block (ret_seq ?_))
   obtain rfl := some_inj hm
   refine leave_mark (D := D91) (v := (.tuple #[(.agg #[(.string p43), (zi p44)]), (zi p42), (zi p41)])) hs92 (by kernel_rfl) (fun w93 hs94 => (resD_three rfl (.agg (ad := ⟨b10, 0, none⟩) (cs := [(.string p43), (zi p44)]) (by kernel_rfl) (by kernel_rfl) (cells_sub (hs94.heapAt 3 rfl) rfl)) (.cell (ad := ⟨b13, 0, none⟩) (by kernel_rfl) (by kernel_rfl) (hs94.cellAt 2 rfl rfl)) (.cell (ad := ⟨b16, 0, none⟩) (by kernel_rfl) (by kernel_rfl) (hs94.cellAt 1 rfl rfl)))) (fun w93 hs94 => ?_)
   have hs95 := St.f5 hs94
   have hs96 := St.f6 hs95
   have hs97 := St.tk2 hs96
   exact ⟨_, ⟨rfl, rfl⟩, hs97⟩
  rintro k38 hk98 rc46 l45 w99 _ hF103 lf100 hs101 K102 hK102
  replace hF103 : rounds (fun k_ c_ s_ => tfind_R40 img l gw gi gb n_ tx_ r27 k_ c_) (fun s_ => tfind_D40) (12 - k38) k38 () = some r := hF103
  rw [rounds_at hk98] at hF103
  obtain ⟨c39, hc39⟩ : ∃ c_, c_ = rounds (fun k_ c_ s_ => tfind_R40 img l gw gi gb n_ tx_ r27 k_ c_) (fun s_ => tfind_D40) (12 - (k38 + 1)) (k38 + 1) := ⟨_, rfl⟩
  rw [← hc39] at hF103
  have hm : tfind_R40 img l gw gi gb n_ tx_ r27 k38 c39 = some r := hF103
  clear hF103
  unfold tfind_R40 at hm
  refine W.region ?_
  refine zR 1 ?_
  obtain ⟨r104, h105, hm⟩ := bind_some hm
  replace h105 := some_inj h105
  refine ops_set 7 (v := .int .i64 r104) (Eq.trans (by kernel_rfl) (congrArg (Value.int .i64) h105)) ?_
  refine zD ?_
  refine hK102 _ _ hs101 (fun w106 hs107 => ?_)
  refine W.block ?_
  refine W.sr fun K108 hK108 => ?_
  refine zG ⟨b4, 0, none⟩ [(zp vb), (zi gw), (zi gi), (zi gb), (zp mb)] (cells_sub (hs107.heapAt 7 rfl) rfl) ?_
  refine zR 1 ?_
  obtain ⟨r109, h110, hm⟩ := bind_some hm
  have hs111 := St.f5 hs107
  have hs112 := St.f6 hs111
  refine zC22 hs112 (tentry_walk (mb := mb) (vb := vb) (k_ := r104) (img := img) (l := l) (gw := gw) (gi := gi) (gb := gb) (n_ := n_) (hm := h110) B _) fun w113 hs115 => ?_
  refine zR 3 ?_
  refine zN [(.string ByteArray.empty), (zi 0)] 89 hs115 fun b118 w116 hs117 => ?_
  refine zT 0 [(.string r109.1), (zi r109.2.1)] [(.string r109.1), (zi r109.2.1)] hs117 fun w119 hs121 => ?_
  refine zE 1 (hK108 _ _ ?_)
  refine W.seq fun K122 hK122 => ?_
  refine W.sr fun K123 hK123 => ?_
  refine zE 2 (hK123 _ _ ?_)
  refine W.cond (!decide (r109.2.2 = 0)) (by kernel_rfl) (fun h124 => ?_) (fun h124 => ?_)
  rotate_left
  ·
   have h124p : r109.2.2 = 0 := of_decide_eq_true (bnot_false h124)
   replace hm := ite_yes hm h124p
   refine W.skip ?_
   refine hK122 _ _ ?_
   refine W.sr fun K125 hK125 => ?_
   refine zG ⟨b118, 0, none⟩ [(.string r109.1), (zi r109.2.1)] (cells_sub (hs121.heapAt 0 rfl) rfl) ?_
   refine zL ⟨b7, 0, none⟩ (.string tx_) (hs121.cellAt 7 rfl rfl) ?_
   refine zR 1 ?_
   refine zL ⟨b118, 1, none⟩ (zi r109.2.1) (hs121.cellAt 0 rfl rfl) ?_
   refine zR 1 ?_
   refine ops_R (v := (.bool ((r109.1 == tx_) && ((decide (r109.2.1 = r109.2.1)) && true)))) (runs_eq (b := ((r109.1 == tx_) && ((decide (r109.2.1 = r109.2.1)) && true))) (by kernel_rfl)) ?_
   refine zD (hK125 _ _ ?_)
   refine W.cond ((r109.1 == tx_) && ((decide (r109.2.1 = r109.2.1)) && true)) (by kernel_rfl) (fun h126 => ?_) (fun h126 => ?_)
   ·
    have h126p : r109.1 = tx_ ∧ r109.2.1 = r109.2.1 := by simpa using h126
    replace hm := ite_yes hm h126p
    refine W.sr fun K127 hK127 => ?_
    refine zG ⟨b118, 0, none⟩ [(.string r109.1), (zi r109.2.1)] (cells_sub (hs121.heapAt 0 rfl) rfl) ?_
    refine zR 1 ?_
    have hs130 := St.f6 hs121
    refine zT 0 [(.string r109.1), (zi r109.2.1)] [(.string r109.1), (zi r109.2.1)] hs130 fun w128 hs131 => ?_
    have hs134 := St.f6 hs131
    refine zT 0 [(zi r104)] [(zi r104)] hs134 fun w132 hs135 => ?_
    have hs138 := St.f6 hs135
    refine zT 0 [(zi 0)] [(zi 0)] hs138 fun w136 hs139 => ?_
    refine zD (hK127 _ _ ?_)
    refine W.ret (ret_block ?_)
    have hs140 := St.f8 hs139
    have hs141 := St.f5 hs140
    have hs142 := St.f6 hs141
    have hs143 := St.f8 hs142
    have hs144 := St.f6 hs143
    have hs145 := St.f6 hs144
    have hs146 := St.f6 hs145
    have hs147 := St.f8 hs146
    have hs148 := St.tk8 hs147
    exact ⟨rfl, (0, r104, r109.1, r109.2.1), hm, hs148⟩
   have h126p : ¬ (r109.1 = tx_ ∧ r109.2.1 = r109.2.1) := by simpa using h126
   replace hm := ite_no hm h126p
   refine W.skip ?_
   refine normal_block ?_
   have hs149 := St.f8 hs121
   have hs150 := St.f2 hs149
   have hs151 := St.f3 hs150
   have hs152 := St.f8 hs151
   have hs153 := St.f8 hs152
   have hs154 := St.f8 hs153
   have hs155 := St.f8 hs154
   have hs156 := St.f8 hs155
   have hs157 := St.tk8 hs156
   rw [hc39] at hm
   exact ⟨(), hm, hs157⟩
  have h124p : ¬ (r109.2.2 = 0) := of_decide_eq_false (bnot_true h124)
  replace hm := ite_no hm h124p
  refine W.sr fun K158 hK158 => ?_
  refine zR 2 ?_
  have hs161 := St.f6 hs121
  refine zT 0 [(.string ByteArray.empty), (zi 0)] [(.string ByteArray.empty), (zi 0)] hs161 fun w159 hs162 => ?_
  have hs165 := St.f6 hs162
  refine zT 0 [(zi 0)] [(zi 0)] hs165 fun w163 hs166 => ?_
  have hs169 := St.f6 hs166
  refine zT 0 [(zi r109.2.2)] [(zi r109.2.2)] hs169 fun w167 hs170 => ?_
  refine zD (hK158 _ _ ?_)
  refine W.ret (ret_seq (ret_block ?_))
  have hs171 := St.f8 hs170
  have hs172 := St.f5 hs171
  have hs173 := St.f6 hs172
  have hs174 := St.f8 hs173
  have hs175 := St.f6 hs174
  have hs176 := St.f6 hs175
  have hs177 := St.f6 hs176
  have hs178 := St.f8 hs177
  have hs179 := St.tk8 hs178
  exact ⟨rfl, (r109.2.2, 0, ByteArray.empty, 0), hm, hs179⟩
 have h24p : ¬ (r19 = true) := ne_true_of_eq_false (bnot_true h24)
 replace hm := ite_no hm h24p
 refine W.sr fun K180 hK180 => ?_
 refine zR 1 ?_
 have hs183 := St.f2 hs23
 refine zT 0 [(.string ByteArray.empty), (zi 0)] [(.string ByteArray.empty), (zi 0)] hs183 fun w181 hs184 => ?_
 have hs187 := St.f2 hs184
 refine zT 0 [(zi 0)] [(zi 0)] hs187 fun w185 hs188 => ?_
 have hs191 := St.f2 hs188
 refine zT 0 [(zi 13)] [(zi 13)] hs191 fun w189 hs192 => ?_
 refine zD (hK180 _ _ ?_)
 refine W.ret (ret_seq ?_)
 obtain rfl := some_inj hm
 have hs193 := St.f6 hs192
 have hs194 := St.f6 hs193
 have hs195 := St.tk2 hs194
 refine ret_of (.tuple #[(.agg #[(.string ByteArray.empty), (zi 0)]), (zi 0), (zi 13)]) (resS_of (by kernel_rfl) (resD_three rfl (.agg (ad := ⟨b10, 0, none⟩) (cs := [(.string ByteArray.empty), (zi 0)]) (by kernel_rfl) (by kernel_rfl) (cells_sub (hs192.heapAt 2 rfl) rfl)) (.cell (ad := ⟨b13, 0, none⟩) (by kernel_rfl) (by kernel_rfl) (hs192.cellAt 1 rfl rfl)) (.cell (ad := ⟨b16, 0, none⟩) (by kernel_rfl) (by kernel_rfl) (hs192.cellAt 0 rfl rfl)))) ⟨_, ⟨rfl, rfl⟩, hs195⟩
end Go.Proofs.Ytmmclabkkigiaaa

set_option maxRecDepth 20000
namespace Go.Proofs.Ytmmclabkkigiaaa
open Go Go.RowKit
theorem ig_nil {gw gi gb n_ : Int} (B : Nat) (w : World) : Spec Try.prog 28 #[(.pointer none), (.agg #[(zi gw), (zi gi), (zi gb)]), (zi n_)] B w [] (fun v H' => v = (.tuple #[(.agg #[(zu 0), (zu 0), (zu 0), (zu 0), (zu 0), (zu 0), (zu 0), (zu 0), (zu 0), (zu 0)]), (zi 2)]) ∧ H' = []) := by
 refine spec_Q Try.func28 rfl fun hs => ?_
 refine W.sr fun K1 hK1 => ?_
 refine zN [(zi gw), (zi gi), (zi gb)] 33 hs fun b4 w2 hs3 => ?_
 refine zN [(zu 0), (zu 0), (zu 0), (zu 0), (zu 0), (zu 0), (zu 0), (zu 0), (zu 0), (zu 0)] 61 hs3 fun b7 w5 hs6 => ?_
 refine zE 1 (hK1 _ _ ?_)
 refine W.sr fun K8 hK8 => ?_
 refine zR 1 ?_
 refine zG ⟨b4, 0, none⟩ [(zi gw), (zi gi), (zi gb)] (cells_sub (hs6.heapAt 1 rfl) rfl) ?_
 refine zR 1 ?_
 refine zC00 hs6 (ifind_nil (gw := gw) (gi := gi) (gb := gb) (n_ := n_) B _) fun w9 hs11 => ?_
 refine zE 5 (hK8 _ _ ?_)
 refine W.seq fun K12 hK12 => ?_
 refine W.sr fun K13 hK13 => ?_
 refine zE 2 (hK13 _ _ ?_)
 refine W.cond_true true (by kernel_rfl) rfl ?_
 refine W.sr fun K14 hK14 => ?_
 refine zR 2 ?_
 refine zT 0 [(zu 0), (zu 0), (zu 0), (zu 0), (zu 0), (zu 0), (zu 0), (zu 0), (zu 0), (zu 0)] [(zu 0), (zu 0), (zu 0), (zu 0), (zu 0), (zu 0), (zu 0), (zu 0), (zu 0), (zu 0)] hs11 fun w15 hs17 => ?_
 refine zE 1 (hK14 _ _ ?_)
 refine W.ret (ret_seq ?_)
 have hs18 := St.tk0 hs17
 refine ret_of (.tuple #[(.agg #[(zu 0), (zu 0), (zu 0), (zu 0), (zu 0), (zu 0), (zu 0), (zu 0), (zu 0), (zu 0)]), (zi 2)]) (results_cell2 (ad := ⟨b7, 0, none⟩) (cs := [(zu 0), (zu 0), (zu 0), (zu 0), (zu 0), (zu 0), (zu 0), (zu 0), (zu 0), (zu 0)]) rfl (by kernel_rfl) (by kernel_rfl) (by kernel_rfl) (cells_sub (hs17.heapAt 0 rfl) rfl)) ⟨_, ⟨rfl, rfl⟩, hs18⟩
end Go.Proofs.Ytmmclabkkigiaaa

set_option maxRecDepth 20000
set_option maxHeartbeats 1000000
namespace Go.Proofs.Ytmmclabkkigiaaa
open Go Go.RowKit
theorem bof_ok {vb : Nat} {img : List Int} {l : List (Int × Int)} {gw gi gb n_ : Int} (B : Nat) (w : World) (hv : ViewAt (ptr vb) img l w) (hP : (igetM img l gw gi gb n_).2 = 0) : Spec Try.prog 73 #[(zp vb), (.agg #[(zi gw), (zi gi), (zi gb)]), (zi n_)] B w [] (fun v H' => ∃ mb, v = .tuple #[ptr mb, .int .i64 0] ∧ H' = [zb mb 138 [(zp vb), (zi gw), (zi gi), (zi gb), (zi n_)]]) := by
 refine spec_Q Try.func73 rfl fun hs => ?_
 refine W.sr fun K1 hK1 => ?_
 refine zN [(zi gw), (zi gi), (zi gb)] 33 hs fun b4 w2 hs3 => ?_
 refine zE 2 (hK1 _ _ ?_)
 refine W.sr fun K5 hK5 => ?_
 refine zR 1 ?_
 refine zG ⟨b4, 0, none⟩ [(zi gw), (zi gi), (zi gb)] (cells_sub (hs3.heapAt 0 rfl) rfl) ?_
 refine zR 1 ?_
 refine zC00 hs3 (ig_spec (gw := gw) (gi := gi) (gb := gb) (n_ := n_) (hv := (viewAt_old hs3 hv)) B _) fun w6 hs8 => ?_
 refine zR 3 ?_
 refine zN [(zu 0), (zu 0), (zu 0), (zu 0), (zu 0), (zu 0), (zu 0), (zu 0), (zu 0), (zu 0)] 61 hs8 fun b11 w9 hs10 => ?_
 refine zT 0 [(zu ((igetM img l gw gi gb n_).1.k)), (zu ((igetM img l gw gi gb n_).1.l)), (zu ((igetM img l gw gi gb n_).1.o)), (zu ((igetM img l gw gi gb n_).1.s)), (zu ((igetM img l gw gi gb n_).1.a)), (zu ((igetM img l gw gi gb n_).1.b)), (zu ((igetM img l gw gi gb n_).1.c)), (zu ((igetM img l gw gi gb n_).1.d)), (zu ((igetM img l gw gi gb n_).1.e)), (zu ((igetM img l gw gi gb n_).1.m))] [(zu ((igetM img l gw gi gb n_).1.k)), (zu ((igetM img l gw gi gb n_).1.l)), (zu ((igetM img l gw gi gb n_).1.o)), (zu ((igetM img l gw gi gb n_).1.s)), (zu ((igetM img l gw gi gb n_).1.a)), (zu ((igetM img l gw gi gb n_).1.b)), (zu ((igetM img l gw gi gb n_).1.c)), (zu ((igetM img l gw gi gb n_).1.d)), (zu ((igetM img l gw gi gb n_).1.e)), (zu ((igetM img l gw gi gb n_).1.m))] hs10 fun w12 hs14 => ?_
 refine zE 1 (hK5 _ _ ?_)
 refine W.seq fun K15 hK15 => ?_
 refine W.sr fun K16 hK16 => ?_
 refine zE 2 (hK16 _ _ ?_)
 refine W.cond (!decide ((igetM img l gw gi gb n_).2 = 0)) (by kernel_rfl) (fun h17 => ?_) (fun h17 => ?_)
 ·
  have h17p : ¬ ((igetM img l gw gi gb n_).2 = 0) := of_decide_eq_false (bnot_true h17)
  refine W.sr fun K18 hK18 => ?_
  refine zE 3 (hK18 _ _ ?_)
  refine W.ret (ret_seq ?_)
  exact absurd hP (by assumption)
 have h17p : (igetM img l gw gi gb n_).2 = 0 := of_decide_eq_true (bnot_false h17)
 refine W.skip ?_
 refine hK15 _ _ ?_
 refine W.sr fun K19 hK19 => ?_
 refine zR 1 ?_
 refine zG ⟨b4, 0, none⟩ [(zi gw), (zi gi), (zi gb)] (cells_sub (hs14.heapAt 1 rfl) rfl) ?_
 refine zR 2 ?_
 refine zN [(zp vb), (zi gw), (zi gi), (zi gb), (zi n_)] 138 hs14 fun b22 w20 hs21 => ?_
 refine zE 2 (hK19 _ _ ?_)
 refine W.ret ?_
 have hs23 := St.tk1 hs21
 refine ret_of (.tuple #[(zp b22), (zi 0)]) (by kernel_rfl) ⟨_, ⟨b22, rfl, rfl⟩, hs23⟩
theorem bof_err {vb : Nat} {img : List Int} {l : List (Int × Int)} {gw gi gb n_ : Int} (B : Nat) (w : World) (hv : ViewAt (ptr vb) img l w) (hN : ¬ ((igetM img l gw gi gb n_).2 = 0)) : Spec Try.prog 73 #[(zp vb), (.agg #[(zi gw), (zi gi), (zi gb)]), (zi n_)] B w [] (fun v H' => v = .tuple #[.pointer none, .int .i64 ((igetM img l gw gi gb n_).2)] ∧ H' = []) := by
 refine spec_Q Try.func73 rfl fun hs => ?_
 refine W.sr fun K1 hK1 => ?_
 refine zN [(zi gw), (zi gi), (zi gb)] 33 hs fun b4 w2 hs3 => ?_
 refine zE 2 (hK1 _ _ ?_)
 refine W.sr fun K5 hK5 => ?_
 refine zR 1 ?_
 refine zG ⟨b4, 0, none⟩ [(zi gw), (zi gi), (zi gb)] (cells_sub (hs3.heapAt 0 rfl) rfl) ?_
 refine zR 1 ?_
 refine zC00 hs3 (ig_spec (gw := gw) (gi := gi) (gb := gb) (n_ := n_) (hv := (viewAt_old hs3 hv)) B _) fun w6 hs8 => ?_
 refine zR 3 ?_
 refine zN [(zu 0), (zu 0), (zu 0), (zu 0), (zu 0), (zu 0), (zu 0), (zu 0), (zu 0), (zu 0)] 61 hs8 fun b11 w9 hs10 => ?_
 refine zT 0 [(zu ((igetM img l gw gi gb n_).1.k)), (zu ((igetM img l gw gi gb n_).1.l)), (zu ((igetM img l gw gi gb n_).1.o)), (zu ((igetM img l gw gi gb n_).1.s)), (zu ((igetM img l gw gi gb n_).1.a)), (zu ((igetM img l gw gi gb n_).1.b)), (zu ((igetM img l gw gi gb n_).1.c)), (zu ((igetM img l gw gi gb n_).1.d)), (zu ((igetM img l gw gi gb n_).1.e)), (zu ((igetM img l gw gi gb n_).1.m))] [(zu ((igetM img l gw gi gb n_).1.k)), (zu ((igetM img l gw gi gb n_).1.l)), (zu ((igetM img l gw gi gb n_).1.o)), (zu ((igetM img l gw gi gb n_).1.s)), (zu ((igetM img l gw gi gb n_).1.a)), (zu ((igetM img l gw gi gb n_).1.b)), (zu ((igetM img l gw gi gb n_).1.c)), (zu ((igetM img l gw gi gb n_).1.d)), (zu ((igetM img l gw gi gb n_).1.e)), (zu ((igetM img l gw gi gb n_).1.m))] hs10 fun w12 hs14 => ?_
 refine zE 1 (hK5 _ _ ?_)
 refine W.seq fun K15 hK15 => ?_
 refine W.sr fun K16 hK16 => ?_
 refine zE 2 (hK16 _ _ ?_)
 refine W.cond (!decide ((igetM img l gw gi gb n_).2 = 0)) (by kernel_rfl) (fun h17 => ?_) (fun h17 => ?_)
 ·
  have h17p : ¬ ((igetM img l gw gi gb n_).2 = 0) := of_decide_eq_false (bnot_true h17)
  refine W.sr fun K18 hK18 => ?_
  refine zE 3 (hK18 _ _ ?_)
  refine W.ret (ret_seq ?_)
  have hs19 := St.tk0 hs14
  refine ret_of (.tuple #[(.pointer none), (zi ((igetM img l gw gi gb n_).2))]) (by kernel_rfl) ⟨_, ⟨rfl, rfl⟩, hs19⟩
 have h17p : (igetM img l gw gi gb n_).2 = 0 := of_decide_eq_true (bnot_false h17)
 refine W.skip ?_
 refine hK15 _ _ ?_
 refine W.sr fun K20 hK20 => ?_
 refine zR 1 ?_
 refine zG ⟨b4, 0, none⟩ [(zi gw), (zi gi), (zi gb)] (cells_sub (hs14.heapAt 1 rfl) rfl) ?_
 refine zR 2 ?_
 refine zN [(zp vb), (zi gw), (zi gi), (zi gb), (zi n_)] 138 hs14 fun b23 w21 hs22 => ?_
 refine zE 2 (hK20 _ _ ?_)
 refine W.ret ?_
 exact absurd (by assumption) hN
end Go.Proofs.Ytmmclabkkigiaaa
