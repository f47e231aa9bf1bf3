/- Texts, one behind the other: F6h, F7g, A7h, A7i, Pu, Lp, Zq, Ut, Us, Uy, Uz, A5a, A5b, F5v, A5c, A5d, A6m, Pn, Za, Zb. -/
import Derived.Test.YtmmclabkkigiaaaGreatRows
import Derived.ProofKit
import Derived.Deep.Slices
import Derived.Deep.Fields
import Derived.Laws.RangeString
import Derived.Lib.IndexAny
import Derived.Shelf.Lay
import Derived.Shelf.Strings.IndexAnyAll
import Derived.Shelf.Small.Utf8
import Derived.Laws.Runes
import Derived.WalkMore
import Derived.RegionTactic
import Derived.Deep.DeepBigQuietO
import Derived.Deep.QuietTactic
import Derived.Test.YtmmclabkkigiaaaGreatProg
import Derived.Test.YtmmclabkkigiaaaGreatQPP2
set_option linter.unusedVariables false
set_option linter.unusedSimpArgs false
set_option maxRecDepth 20000
set_option maxHeartbeats 2000000
namespace Go.Proofs.YtmmclabkkigiaaaGreat
open Go Go.RowKit
theorem ig_spec {b : Nat} {img : List Int} {l : List (Int × Int)} {gw gi gb n_ : Int} (B : Nat) (w : World) (hv : ViewAt (ptr b) img l w) : Spec Tryz.prog 19 #[(zp b), (.agg #[(zi gw), (zi gi), (zi gb)]), (zi n_)] B w [] (fun v H' => v = (.tuple #[(.agg #[(zu ((igetM img l gw gi gb n_).1.k)), (zu ((igetM img l gw gi gb n_).1.l)), (zu ((igetM img l gw gi gb n_).1.o)), (zu ((igetM img l gw gi gb n_).1.s)), (zu ((igetM img l gw gi gb n_).1.a)), (zu ((igetM img l gw gi gb n_).1.b)), (zu ((igetM img l gw gi gb n_).1.c)), (zu ((igetM img l gw gi gb n_).1.d)), (zu ((igetM img l gw gi gb n_).1.e)), (zu ((igetM img l gw gi gb n_).1.m))]), (zi ((igetM img l gw gi gb n_).2))]) ∧ H' = []) := by
 refine spec_Q Tryz.func19 rfl fun hs => ?_
 have hrg := ifind_range (img.length : Int) gw gi gb n_
 refine W.sr fun K1 hK1 => ?_
 refine zN [(zi gw), (zi gi), (zi gb)] 24 hs fun b4 w2 hs3 => ?_
 refine zN [(zu 0), (zu 0), (zu 0), (zu 0), (zu 0), (zu 0), (zu 0), (zu 0), (zu 0), (zu 0)] 65 hs3 fun b7 w5 hs6 => ?_
 refine zE 1 (hK1 _ _ ?_)
 refine W.sr fun K8 hK8 => ?_
 refine zR 1 ?_
 refine zG ⟨b4, 0, none⟩ [(zi gw), (zi gi), (zi gb)] (cells_sub (hs6.heapAt 1 rfl) rfl) ?_
 refine zR 1 ?_
 refine zC00 hs6 (ifind_spec (gw := gw) (gi := gi) (gb := gb) (n_ := n_) (hv := (viewAt_old hs6 hv)) B _) fun w9 hs11 => ?_
 refine zE 5 (hK8 _ _ ?_)
 refine W.seq fun K12 hK12 => ?_
 refine W.sr fun K13 hK13 => ?_
 refine zE 2 (hK13 _ _ ?_)
 refine W.cond (!decide ((ifind (img.length : Int) gw gi gb n_).2 = 0)) (by kernel_rfl) (fun h14 => ?_) (fun h14 => ?_)
 ·
  have h14p : ¬ ((ifind (img.length : Int) gw gi gb n_).2 = 0) := of_decide_eq_false (bnot_true h14)
  refine W.sr fun K15 hK15 => ?_
  refine zR 2 ?_
  refine zT 0 [(zu 0), (zu 0), (zu 0), (zu 0), (zu 0), (zu 0), (zu 0), (zu 0), (zu 0), (zu 0)] [(zu 0), (zu 0), (zu 0), (zu 0), (zu 0), (zu 0), (zu 0), (zu 0), (zu 0), (zu 0)] hs11 fun w16 hs18 => ?_
  refine zE 1 (hK15 _ _ ?_)
  refine W.ret (ret_seq ?_)
  have e_ : igetM img l gw gi gb n_ = (Nd.zero, (ifind (img.length : Int) gw gi gb n_).2) := by first | (exfalso; omega) | (simp only [igetM]; exact if_neg (by assumption))
  have hs19 := St.tk0 hs18
  refine ret_of (.tuple #[(.agg #[(zu 0), (zu 0), (zu 0), (zu 0), (zu 0), (zu 0), (zu 0), (zu 0), (zu 0), (zu 0)]), (zi ((ifind (img.length : Int) gw gi gb n_).2))]) (results_cell2 (ad := ⟨b7, 0, none⟩) (cs := [(zu 0), (zu 0), (zu 0), (zu 0), (zu 0), (zu 0), (zu 0), (zu 0), (zu 0), (zu 0)]) rfl (by kernel_rfl) (by kernel_rfl) (by kernel_rfl) (cells_sub (hs18.heapAt 0 rfl) rfl)) ⟨_, ⟨by rw [e_]; try rfl, rfl⟩, hs19⟩
 have h14p : (ifind (img.length : Int) gw gi gb n_).2 = 0 := of_decide_eq_true (bnot_false h14)
 refine W.skip ?_
 refine hK12 _ _ ?_
 refine W.sr fun K20 hK20 => ?_
 refine zN [(zu 0), (zu 0), (zu 0), (zu 0), (zu 0), (zu 0), (zu 0), (zu 0), (zu 0), (zu 0)] 113 hs11 fun b23 w21 hs22 => ?_
 refine zD (hK20 _ _ ?_)
 refine W.seq fun K24 hK24 => ?_
 refine W.sr fun K25 hK25 => ?_
 refine zE 1 (hK25 _ _ ?_)
 refine W.block ?_
 refine W.loop_start ?_
 refine loopAt_round ?_
 refine W.sr fun K26 hK26 => ?_
 refine zE 1 (hK26 _ _ ?_)
 refine W.seq fun K27 hK27 => ?_
 refine W.cond_true true (by kernel_rfl) rfl ?_
 refine W.skip ?_
 refine hK27 _ _ ?_
 refine W.seq fun K28 hK28 => ?_
 refine W.block ?_
 refine W.sr fun K29 hK29 => ?_
 refine zE 2 (hK29 _ _ ?_)
 refine W.region ?_
 refine zR 4 ?_
 refine zI ((ifind (img.length : Int) gw gi gb n_).1 + 0) (wrap_i64 (by omega) (by omega)) ?_
 refine zC00 hs22 (get_spec (at_ := ((ifind (img.length : Int) gw gi gb n_).1 + 0)) (hv := (viewAt_old hs22 hv)) B _) fun w30 hs32 => ?_
 refine zR 1 ?_
 refine zT 0 [(zu (vget img l ((ifind (img.length : Int) gw gi gb n_).1 + 0)))] [(zu (vget img l ((ifind (img.length : Int) gw gi gb n_).1 + 0))), (zu 0), (zu 0), (zu 0), (zu 0), (zu 0), (zu 0), (zu 0), (zu 0), (zu 0)] hs32 fun w33 hs35 => ?_
 refine zD ?_
 refine normal_block ?_
 refine hK28 _ _ ?_
 refine W.region ?_
 refine zE 2 ?_
 refine loopAt_next ?_
 refine loopAt_round ?_
 refine W.sr fun K36 hK36 => ?_
 refine zE 1 (hK36 _ _ ?_)
 refine W.seq fun K37 hK37 => ?_
 refine W.cond_true true (by kernel_rfl) rfl ?_
 refine W.skip ?_
 refine hK37 _ _ ?_
 refine W.seq fun K38 hK38 => ?_
 refine W.block ?_
 refine W.sr fun K39 hK39 => ?_
 refine zE 2 (hK39 _ _ ?_)
 refine W.region ?_
 refine zR 4 ?_
 refine zI ((ifind (img.length : Int) gw gi gb n_).1 + 1) (wrap_i64 (by omega) (by omega)) ?_
 refine zC00 hs35 (get_spec (at_ := ((ifind (img.length : Int) gw gi gb n_).1 + 1)) (hv := (viewAt_old hs35 hv)) B _) fun w40 hs42 => ?_
 refine zR 1 ?_
 refine zT 1 [(zu (vget img l ((ifind (img.length : Int) gw gi gb n_).1 + 1)))] [(zu (vget img l ((ifind (img.length : Int) gw gi gb n_).1 + 0))), (zu (vget img l ((ifind (img.length : Int) gw gi gb n_).1 + 1))), (zu 0), (zu 0), (zu 0), (zu 0), (zu 0), (zu 0), (zu 0), (zu 0)] hs42 fun w43 hs45 => ?_
 refine zD ?_
 refine normal_block ?_
 refine hK38 _ _ ?_
 refine W.region ?_
 refine zE 2 ?_
 refine loopAt_next ?_
 refine loopAt_round ?_
 refine W.sr fun K46 hK46 => ?_
 refine zE 1 (hK46 _ _ ?_)
 refine W.seq fun K47 hK47 => ?_
 refine W.cond_true true (by kernel_rfl) rfl ?_
 refine W.skip ?_
 refine hK47 _ _ ?_
 refine W.seq fun K48 hK48 => ?_
 refine W.block ?_
 refine W.sr fun K49 hK49 => ?_
 refine zE 2 (hK49 _ _ ?_)
 refine W.region ?_
 refine zR 4 ?_
 refine zI ((ifind (img.length : Int) gw gi gb n_).1 + 2) (wrap_i64 (by omega) (by omega)) ?_
 refine zC00 hs45 (get_spec (at_ := ((ifind (img.length : Int) gw gi gb n_).1 + 2)) (hv := (viewAt_old hs45 hv)) B _) fun w50 hs52 => ?_
 refine zR 1 ?_
 refine zT 2 [(zu (vget img l ((ifind (img.length : Int) gw gi gb n_).1 + 2)))] [(zu (vget img l ((ifind (img.length : Int) gw gi gb n_).1 + 0))), (zu (vget img l ((ifind (img.length : Int) gw gi gb n_).1 + 1))), (zu (vget img l ((ifind (img.length : Int) gw gi gb n_).1 + 2))), (zu 0), (zu 0), (zu 0), (zu 0), (zu 0), (zu 0), (zu 0)] hs52 fun w53 hs55 => ?_
 refine zD ?_
 refine normal_block ?_
 refine hK48 _ _ ?_
 refine W.region ?_
 refine zE 2 ?_
 refine loopAt_next ?_
 refine loopAt_round ?_
 refine W.sr fun K56 hK56 => ?_
 refine zE 1 (hK56 _ _ ?_)
 refine W.seq fun K57 hK57 => ?_
 refine W.cond_true true (by kernel_rfl) rfl ?_
 refine W.skip ?_
 refine hK57 _ _ ?_
 refine W.seq fun K58 hK58 => ?_
 refine W.block ?_
 refine W.sr fun K59 hK59 => ?_
 refine zE 2 (hK59 _ _ ?_)
 refine W.region ?_
 refine zR 4 ?_
 refine zI ((ifind (img.length : Int) gw gi gb n_).1 + 3) (wrap_i64 (by omega) (by omega)) ?_
 refine zC00 hs55 (get_spec (at_ := ((ifind (img.length : Int) gw gi gb n_).1 + 3)) (hv := (viewAt_old hs55 hv)) B _) fun w60 hs62 => ?_
 refine zR 1 ?_
 refine zT 3 [(zu (vget img l ((ifind (img.length : Int) gw gi gb n_).1 + 3)))] [(zu (vget img l ((ifind (img.length : Int) gw gi gb n_).1 + 0))), (zu (vget img l ((ifind (img.length : Int) gw gi gb n_).1 + 1))), (zu (vget img l ((ifind (img.length : Int) gw gi gb n_).1 + 2))), (zu (vget img l ((ifind (img.length : Int) gw gi gb n_).1 + 3))), (zu 0), (zu 0), (zu 0), (zu 0), (zu 0), (zu 0)] hs62 fun w63 hs65 => ?_
 refine zD ?_
 refine normal_block ?_
 refine hK58 _ _ ?_
 refine W.region ?_
 refine zE 2 ?_
 refine loopAt_next ?_
 refine loopAt_round ?_
 refine W.sr fun K66 hK66 => ?_
 refine zE 1 (hK66 _ _ ?_)
 refine W.seq fun K67 hK67 => ?_
 refine W.cond_true true (by kernel_rfl) rfl ?_
 refine W.skip ?_
 refine hK67 _ _ ?_
 refine W.seq fun K68 hK68 => ?_
 refine W.block ?_
 refine W.sr fun K69 hK69 => ?_
 refine zE 2 (hK69 _ _ ?_)
 refine W.region ?_
 refine zR 4 ?_
 refine zI ((ifind (img.length : Int) gw gi gb n_).1 + 4) (wrap_i64 (by omega) (by omega)) ?_
 refine zC00 hs65 (get_spec (at_ := ((ifind (img.length : Int) gw gi gb n_).1 + 4)) (hv := (viewAt_old hs65 hv)) B _) fun w70 hs72 => ?_
 refine zR 1 ?_
 refine zT 4 [(zu (vget img l ((ifind (img.length : Int) gw gi gb n_).1 + 4)))] [(zu (vget img l ((ifind (img.length : Int) gw gi gb n_).1 + 0))), (zu (vget img l ((ifind (img.length : Int) gw gi gb n_).1 + 1))), (zu (vget img l ((ifind (img.length : Int) gw gi gb n_).1 + 2))), (zu (vget img l ((ifind (img.length : Int) gw gi gb n_).1 + 3))), (zu (vget img l ((ifind (img.length : Int) gw gi gb n_).1 + 4))), (zu 0), (zu 0), (zu 0), (zu 0), (zu 0)] hs72 fun w73 hs75 => ?_
 refine zD ?_
 refine normal_block ?_
 refine hK68 _ _ ?_
 refine W.region ?_
 refine zE 2 ?_
 refine loopAt_next ?_
 refine loopAt_round ?_
 refine W.sr fun K76 hK76 => ?_
 refine zE 1 (hK76 _ _ ?_)
 refine W.seq fun K77 hK77 => ?_
 refine W.cond_true true (by kernel_rfl) rfl ?_
 refine W.skip ?_
 refine hK77 _ _ ?_
 refine W.seq fun K78 hK78 => ?_
 refine W.block ?_
 refine W.sr fun K79 hK79 => ?_
 refine zE 2 (hK79 _ _ ?_)
 refine W.region ?_
 refine zR 4 ?_
 refine zI ((ifind (img.length : Int) gw gi gb n_).1 + 5) (wrap_i64 (by omega) (by omega)) ?_
 refine zC00 hs75 (get_spec (at_ := ((ifind (img.length : Int) gw gi gb n_).1 + 5)) (hv := (viewAt_old hs75 hv)) B _) fun w80 hs82 => ?_
 refine zR 1 ?_
 refine zT 5 [(zu (vget img l ((ifind (img.length : Int) gw gi gb n_).1 + 5)))] [(zu (vget img l ((ifind (img.length : Int) gw gi gb n_).1 + 0))), (zu (vget img l ((ifind (img.length : Int) gw gi gb n_).1 + 1))), (zu (vget img l ((ifind (img.length : Int) gw gi gb n_).1 + 2))), (zu (vget img l ((ifind (img.length : Int) gw gi gb n_).1 + 3))), (zu (vget img l ((ifind (img.length : Int) gw gi gb n_).1 + 4))), (zu (vget img l ((ifind (img.length : Int) gw gi gb n_).1 + 5))), (zu 0), (zu 0), (zu 0), (zu 0)] hs82 fun w83 hs85 => ?_
 refine zD ?_
 refine normal_block ?_
 refine hK78 _ _ ?_
 refine W.region ?_
 refine zE 2 ?_
 refine loopAt_next ?_
 refine loopAt_round ?_
 refine W.sr fun K86 hK86 => ?_
 refine zE 1 (hK86 _ _ ?_)
 refine W.seq fun K87 hK87 => ?_
 refine W.cond_true true (by kernel_rfl) rfl ?_
 refine W.skip ?_
 refine hK87 _ _ ?_
 refine W.seq fun K88 hK88 => ?_
 refine W.block ?_
 refine W.sr fun K89 hK89 => ?_
 refine zE 2 (hK89 _ _ ?_)
 refine W.region ?_
 refine zR 4 ?_
 refine zI ((ifind (img.length : Int) gw gi gb n_).1 + 6) (wrap_i64 (by omega) (by omega)) ?_
 refine zC00 hs85 (get_spec (at_ := ((ifind (img.length : Int) gw gi gb n_).1 + 6)) (hv := (viewAt_old hs85 hv)) B _) fun w90 hs92 => ?_
 refine zR 1 ?_
 refine zT 6 [(zu (vget img l ((ifind (img.length : Int) gw gi gb n_).1 + 6)))] [(zu (vget img l ((ifind (img.length : Int) gw gi gb n_).1 + 0))), (zu (vget img l ((ifind (img.length : Int) gw gi gb n_).1 + 1))), (zu (vget img l ((ifind (img.length : Int) gw gi gb n_).1 + 2))), (zu (vget img l ((ifind (img.length : Int) gw gi gb n_).1 + 3))), (zu (vget img l ((ifind (img.length : Int) gw gi gb n_).1 + 4))), (zu (vget img l ((ifind (img.length : Int) gw gi gb n_).1 + 5))), (zu (vget img l ((ifind (img.length : Int) gw gi gb n_).1 + 6))), (zu 0), (zu 0), (zu 0)] hs92 fun w93 hs95 => ?_
 refine zD ?_
 refine normal_block ?_
 refine hK88 _ _ ?_
 refine W.region ?_
 refine zE 2 ?_
 refine loopAt_next ?_
 refine loopAt_round ?_
 refine W.sr fun K96 hK96 => ?_
 refine zE 1 (hK96 _ _ ?_)
 refine W.seq fun K97 hK97 => ?_
 refine W.cond_true true (by kernel_rfl) rfl ?_
 refine W.skip ?_
 refine hK97 _ _ ?_
 refine W.seq fun K98 hK98 => ?_
 refine W.block ?_
 refine W.sr fun K99 hK99 => ?_
 refine zE 2 (hK99 _ _ ?_)
 refine W.region ?_
 refine zR 4 ?_
 refine zI ((ifind (img.length : Int) gw gi gb n_).1 + 7) (wrap_i64 (by omega) (by omega)) ?_
 refine zC00 hs95 (get_spec (at_ := ((ifind (img.length : Int) gw gi gb n_).1 + 7)) (hv := (viewAt_old hs95 hv)) B _) fun w100 hs102 => ?_
 refine zR 1 ?_
 refine zT 7 [(zu (vget img l ((ifind (img.length : Int) gw gi gb n_).1 + 7)))] [(zu (vget img l ((ifind (img.length : Int) gw gi gb n_).1 + 0))), (zu (vget img l ((ifind (img.length : Int) gw gi gb n_).1 + 1))), (zu (vget img l ((ifind (img.length : Int) gw gi gb n_).1 + 2))), (zu (vget img l ((ifind (img.length : Int) gw gi gb n_).1 + 3))), (zu (vget img l ((ifind (img.length : Int) gw gi gb n_).1 + 4))), (zu (vget img l ((ifind (img.length : Int) gw gi gb n_).1 + 5))), (zu (vget img l ((ifind (img.length : Int) gw gi gb n_).1 + 6))), (zu (vget img l ((ifind (img.length : Int) gw gi gb n_).1 + 7))), (zu 0), (zu 0)] hs102 fun w103 hs105 => ?_
 refine zD ?_
 refine normal_block ?_
 refine hK98 _ _ ?_
 refine W.region ?_
 refine zE 2 ?_
 refine loopAt_next ?_
 refine loopAt_round ?_
 refine W.sr fun K106 hK106 => ?_
 refine zE 1 (hK106 _ _ ?_)
 refine W.seq fun K107 hK107 => ?_
 refine W.cond_true true (by kernel_rfl) rfl ?_
 refine W.skip ?_
 refine hK107 _ _ ?_
 refine W.seq fun K108 hK108 => ?_
 refine W.block ?_
 refine W.sr fun K109 hK109 => ?_
 refine zE 2 (hK109 _ _ ?_)
 refine W.region ?_
 refine zR 4 ?_
 refine zI ((ifind (img.length : Int) gw gi gb n_).1 + 8) (wrap_i64 (by omega) (by omega)) ?_
 refine zC00 hs105 (get_spec (at_ := ((ifind (img.length : Int) gw gi gb n_).1 + 8)) (hv := (viewAt_old hs105 hv)) B _) fun w110 hs112 => ?_
 refine zR 1 ?_
 refine zT 8 [(zu (vget img l ((ifind (img.length : Int) gw gi gb n_).1 + 8)))] [(zu (vget img l ((ifind (img.length : Int) gw gi gb n_).1 + 0))), (zu (vget img l ((ifind (img.length : Int) gw gi gb n_).1 + 1))), (zu (vget img l ((ifind (img.length : Int) gw gi gb n_).1 + 2))), (zu (vget img l ((ifind (img.length : Int) gw gi gb n_).1 + 3))), (zu (vget img l ((ifind (img.length : Int) gw gi gb n_).1 + 4))), (zu (vget img l ((ifind (img.length : Int) gw gi gb n_).1 + 5))), (zu (vget img l ((ifind (img.length : Int) gw gi gb n_).1 + 6))), (zu (vget img l ((ifind (img.length : Int) gw gi gb n_).1 + 7))), (zu (vget img l ((ifind (img.length : Int) gw gi gb n_).1 + 8))), (zu 0)] hs112 fun w113 hs115 => ?_
 refine zD ?_
 refine normal_block ?_
 refine hK108 _ _ ?_
 refine W.region ?_
 refine zE 2 ?_
 refine loopAt_next ?_
 refine loopAt_round ?_
 refine W.sr fun K116 hK116 => ?_
 refine zE 1 (hK116 _ _ ?_)
 refine W.seq fun K117 hK117 => ?_
 refine W.cond_true true (by kernel_rfl) rfl ?_
 refine W.skip ?_
 refine hK117 _ _ ?_
 refine W.seq fun K118 hK118 => ?_
 refine W.block ?_
 refine W.sr fun K119 hK119 => ?_
 refine zE 2 (hK119 _ _ ?_)
 refine W.region ?_
 refine zR 4 ?_
 refine zI ((ifind (img.length : Int) gw gi gb n_).1 + 9) (wrap_i64 (by omega) (by omega)) ?_
 refine zC00 hs115 (get_spec (at_ := ((ifind (img.length : Int) gw gi gb n_).1 + 9)) (hv := (viewAt_old hs115 hv)) B _) fun w120 hs122 => ?_
 refine zR 1 ?_
 refine zT 9 [(zu (vget img l ((ifind (img.length : Int) gw gi gb n_).1 + 9)))] [(zu (vget img l ((ifind (img.length : Int) gw gi gb n_).1 + 0))), (zu (vget img l ((ifind (img.length : Int) gw gi gb n_).1 + 1))), (zu (vget img l ((ifind (img.length : Int) gw gi gb n_).1 + 2))), (zu (vget img l ((ifind (img.length : Int) gw gi gb n_).1 + 3))), (zu (vget img l ((ifind (img.length : Int) gw gi gb n_).1 + 4))), (zu (vget img l ((ifind (img.length : Int) gw gi gb n_).1 + 5))), (zu (vget img l ((ifind (img.length : Int) gw gi gb n_).1 + 6))), (zu (vget img l ((ifind (img.length : Int) gw gi gb n_).1 + 7))), (zu (vget img l ((ifind (img.length : Int) gw gi gb n_).1 + 8))), (zu (vget img l ((ifind (img.length : Int) gw gi gb n_).1 + 9)))] hs122 fun w123 hs125 => ?_
 refine zD ?_
 refine normal_block ?_
 refine hK118 _ _ ?_
 refine W.region ?_
 refine zE 2 ?_
 refine loopAt_next ?_
 refine loopAt_round ?_
 refine W.sr fun K126 hK126 => ?_
 refine zE 1 (hK126 _ _ ?_)
 refine W.seq fun K127 hK127 => ?_
 refine W.cond_false false (by kernel_rfl) rfl ?_
 refine W.exit (exit_seq (exit_seq (exit_here ?_)))
 refine hK24 _ _ ?_
 refine W.sr fun K128 hK128 => ?_
 refine zG ⟨b23, 0, none⟩ [(zu (vget img l ((ifind (img.length : Int) gw gi gb n_).1 + 0))), (zu (vget img l ((ifind (img.length : Int) gw gi gb n_).1 + 1))), (zu (vget img l ((ifind (img.length : Int) gw gi gb n_).1 + 2))), (zu (vget img l ((ifind (img.length : Int) gw gi gb n_).1 + 3))), (zu (vget img l ((ifind (img.length : Int) gw gi gb n_).1 + 4))), (zu (vget img l ((ifind (img.length : Int) gw gi gb n_).1 + 5))), (zu (vget img l ((ifind (img.length : Int) gw gi gb n_).1 + 6))), (zu (vget img l ((ifind (img.length : Int) gw gi gb n_).1 + 7))), (zu (vget img l ((ifind (img.length : Int) gw gi gb n_).1 + 8))), (zu (vget img l ((ifind (img.length : Int) gw gi gb n_).1 + 9)))] (cells_sub (hs125.heapAt 0 rfl) rfl) ?_
 refine zC00 hs125 (inode_spec (x_ := ⟨(vget img l ((ifind (img.length : Int) gw gi gb n_).1 + 0)), (vget img l ((ifind (img.length : Int) gw gi gb n_).1 + 1)), (vget img l ((ifind (img.length : Int) gw gi gb n_).1 + 2)), (vget img l ((ifind (img.length : Int) gw gi gb n_).1 + 3)), (vget img l ((ifind (img.length : Int) gw gi gb n_).1 + 4)), (vget img l ((ifind (img.length : Int) gw gi gb n_).1 + 5)), (vget img l ((ifind (img.length : Int) gw gi gb n_).1 + 6)), (vget img l ((ifind (img.length : Int) gw gi gb n_).1 + 7)), (vget img l ((ifind (img.length : Int) gw gi gb n_).1 + 8)), (vget img l ((ifind (img.length : Int) gw gi gb n_).1 + 9))⟩) B _) fun w129 hs131 => ?_
 refine zN [(zu 0), (zu 0), (zu 0), (zu 0), (zu 0), (zu 0), (zu 0), (zu 0), (zu 0), (zu 0)] 65 hs131 fun b134 w132 hs133 => ?_
 refine zT 0 [(zu (vget img l ((ifind (img.length : Int) gw gi gb n_).1 + 0))), (zu (vget img l ((ifind (img.length : Int) gw gi gb n_).1 + 1))), (zu (vget img l ((ifind (img.length : Int) gw gi gb n_).1 + 2))), (zu (vget img l ((ifind (img.length : Int) gw gi gb n_).1 + 3))), (zu (vget img l ((ifind (img.length : Int) gw gi gb n_).1 + 4))), (zu (vget img l ((ifind (img.length : Int) gw gi gb n_).1 + 5))), (zu (vget img l ((ifind (img.length : Int) gw gi gb n_).1 + 6))), (zu (vget img l ((ifind (img.length : Int) gw gi gb n_).1 + 7))), (zu (vget img l ((ifind (img.length : Int) gw gi gb n_).1 + 8))), (zu (vget img l ((ifind (img.length : Int) gw gi gb n_).1 + 9)))] [(zu (vget img l ((ifind (img.length : Int) gw gi gb n_).1 + 0))), (zu (vget img l ((ifind (img.length : Int) gw gi gb n_).1 + 1))), (zu (vget img l ((ifind (img.length : Int) gw gi gb n_).1 + 2))), (zu (vget img l ((ifind (img.length : Int) gw gi gb n_).1 + 3))), (zu (vget img l ((ifind (img.length : Int) gw gi gb n_).1 + 4))), (zu (vget img l ((ifind (img.length : Int) gw gi gb n_).1 + 5))), (zu (vget img l ((ifind (img.length : Int) gw gi gb n_).1 + 6))), (zu (vget img l ((ifind (img.length : Int) gw gi gb n_).1 + 7))), (zu (vget img l ((ifind (img.length : Int) gw gi gb n_).1 + 8))), (zu (vget img l ((ifind (img.length : Int) gw gi gb n_).1 + 9)))] hs133 fun w135 hs137 => ?_
 refine zD (hK128 _ _ ?_)
 refine W.seq fun K138 hK138 => ?_
 refine W.sr fun K139 hK139 => ?_
 refine zG ⟨b4, 0, none⟩ [(zi gw), (zi gi), (zi gb)] (cells_sub (hs137.heapAt 3 rfl) rfl) ?_
 refine zG ⟨b134, 0, none⟩ [(zu (vget img l ((ifind (img.length : Int) gw gi gb n_).1 + 0))), (zu (vget img l ((ifind (img.length : Int) gw gi gb n_).1 + 1))), (zu (vget img l ((ifind (img.length : Int) gw gi gb n_).1 + 2))), (zu (vget img l ((ifind (img.length : Int) gw gi gb n_).1 + 3))), (zu (vget img l ((ifind (img.length : Int) gw gi gb n_).1 + 4))), (zu (vget img l ((ifind (img.length : Int) gw gi gb n_).1 + 5))), (zu (vget img l ((ifind (img.length : Int) gw gi gb n_).1 + 6))), (zu (vget img l ((ifind (img.length : Int) gw gi gb n_).1 + 7))), (zu (vget img l ((ifind (img.length : Int) gw gi gb n_).1 + 8))), (zu (vget img l ((ifind (img.length : Int) gw gi gb n_).1 + 9)))] (cells_sub (hs137.heapAt 0 rfl) rfl) ?_
 refine zC00 hs137 (right_spec (gw := gw) (gi := gi) (gb := gb) (x_ := ⟨(vget img l ((ifind (img.length : Int) gw gi gb n_).1 + 0)), (vget img l ((ifind (img.length : Int) gw gi gb n_).1 + 1)), (vget img l ((ifind (img.length : Int) gw gi gb n_).1 + 2)), (vget img l ((ifind (img.length : Int) gw gi gb n_).1 + 3)), (vget img l ((ifind (img.length : Int) gw gi gb n_).1 + 4)), (vget img l ((ifind (img.length : Int) gw gi gb n_).1 + 5)), (vget img l ((ifind (img.length : Int) gw gi gb n_).1 + 6)), (vget img l ((ifind (img.length : Int) gw gi gb n_).1 + 7)), (vget img l ((ifind (img.length : Int) gw gi gb n_).1 + 8)), (vget img l ((ifind (img.length : Int) gw gi gb n_).1 + 9))⟩) B _) fun w140 hs142 => ?_
 refine zE 1 (hK139 _ _ ?_)
 refine W.cond (!(decide (RightP gw gi gb ⟨(vget img l ((ifind (img.length : Int) gw gi gb n_).1 + 0)), (vget img l ((ifind (img.length : Int) gw gi gb n_).1 + 1)), (vget img l ((ifind (img.length : Int) gw gi gb n_).1 + 2)), (vget img l ((ifind (img.length : Int) gw gi gb n_).1 + 3)), (vget img l ((ifind (img.length : Int) gw gi gb n_).1 + 4)), (vget img l ((ifind (img.length : Int) gw gi gb n_).1 + 5)), (vget img l ((ifind (img.length : Int) gw gi gb n_).1 + 6)), (vget img l ((ifind (img.length : Int) gw gi gb n_).1 + 7)), (vget img l ((ifind (img.length : Int) gw gi gb n_).1 + 8)), (vget img l ((ifind (img.length : Int) gw gi gb n_).1 + 9))⟩))) (by kernel_rfl) (fun h143 => ?_) (fun h143 => ?_)
 ·
  have h143p : ¬ (RightP gw gi gb ⟨(vget img l ((ifind (img.length : Int) gw gi gb n_).1 + 0)), (vget img l ((ifind (img.length : Int) gw gi gb n_).1 + 1)), (vget img l ((ifind (img.length : Int) gw gi gb n_).1 + 2)), (vget img l ((ifind (img.length : Int) gw gi gb n_).1 + 3)), (vget img l ((ifind (img.length : Int) gw gi gb n_).1 + 4)), (vget img l ((ifind (img.length : Int) gw gi gb n_).1 + 5)), (vget img l ((ifind (img.length : Int) gw gi gb n_).1 + 6)), (vget img l ((ifind (img.length : Int) gw gi gb n_).1 + 7)), (vget img l ((ifind (img.length : Int) gw gi gb n_).1 + 8)), (vget img l ((ifind (img.length : Int) gw gi gb n_).1 + 9))⟩) := of_decide_eq_false (bnot_true h143)
  refine W.sr fun K144 hK144 => ?_
  refine zR 1 ?_
  have hs147 := St.f2 hs142
  refine zT 0 [(zu 0), (zu 0), (zu 0), (zu 0), (zu 0), (zu 0), (zu 0), (zu 0), (zu 0), (zu 0)] [(zu 0), (zu 0), (zu 0), (zu 0), (zu 0), (zu 0), (zu 0), (zu 0), (zu 0), (zu 0)] hs147 fun w145 hs148 => ?_
  refine zE 1 (hK144 _ _ ?_)
  refine W.ret (ret_seq ?_)
  have e_ : igetM img l gw gi gb n_ = (Nd.zero, 4) := by first | (exfalso; omega) | (simp only [igetM]; rw [if_pos (by assumption)]; exact if_neg (by assumption))
  have hs149 := St.tk0 hs148
  refine ret_of (.tuple #[(.agg #[(zu 0), (zu 0), (zu 0), (zu 0), (zu 0), (zu 0), (zu 0), (zu 0), (zu 0), (zu 0)]), (zi 4)]) (results_cell2 (ad := ⟨b7, 0, none⟩) (cs := [(zu 0), (zu 0), (zu 0), (zu 0), (zu 0), (zu 0), (zu 0), (zu 0), (zu 0), (zu 0)]) rfl (by kernel_rfl) (by kernel_rfl) (by kernel_rfl) (cells_sub (hs148.heapAt 0 rfl) rfl)) ⟨_, ⟨by rw [e_]; try rfl, rfl⟩, hs149⟩
 have h143p : RightP gw gi gb ⟨(vget img l ((ifind (img.length : Int) gw gi gb n_).1 + 0)), (vget img l ((ifind (img.length : Int) gw gi gb n_).1 + 1)), (vget img l ((ifind (img.length : Int) gw gi gb n_).1 + 2)), (vget img l ((ifind (img.length : Int) gw gi gb n_).1 + 3)), (vget img l ((ifind (img.length : Int) gw gi gb n_).1 + 4)), (vget img l ((ifind (img.length : Int) gw gi gb n_).1 + 5)), (vget img l ((ifind (img.length : Int) gw gi gb n_).1 + 6)), (vget img l ((ifind (img.length : Int) gw gi gb n_).1 + 7)), (vget img l ((ifind (img.length : Int) gw gi gb n_).1 + 8)), (vget img l ((ifind (img.length : Int) gw gi gb n_).1 + 9))⟩ := of_decide_eq_true (bnot_false h143)
 refine W.skip ?_
 refine hK138 _ _ ?_
 refine W.sr fun K150 hK150 => ?_
 refine zG ⟨b134, 0, none⟩ [(zu (vget img l ((ifind (img.length : Int) gw gi gb n_).1 + 0))), (zu (vget img l ((ifind (img.length : Int) gw gi gb n_).1 + 1))), (zu (vget img l ((ifind (img.length : Int) gw gi gb n_).1 + 2))), (zu (vget img l ((ifind (img.length : Int) gw gi gb n_).1 + 3))), (zu (vget img l ((ifind (img.length : Int) gw gi gb n_).1 + 4))), (zu (vget img l ((ifind (img.length : Int) gw gi gb n_).1 + 5))), (zu (vget img l ((ifind (img.length : Int) gw gi gb n_).1 + 6))), (zu (vget img l ((ifind (img.length : Int) gw gi gb n_).1 + 7))), (zu (vget img l ((ifind (img.length : Int) gw gi gb n_).1 + 8))), (zu (vget img l ((ifind (img.length : Int) gw gi gb n_).1 + 9)))] (cells_sub (hs142.heapAt 0 rfl) rfl) ?_
 have hs153 := St.f2 hs142
 refine zT 0 [(zu (vget img l ((ifind (img.length : Int) gw gi gb n_).1 + 0))), (zu (vget img l ((ifind (img.length : Int) gw gi gb n_).1 + 1))), (zu (vget img l ((ifind (img.length : Int) gw gi gb n_).1 + 2))), (zu (vget img l ((ifind (img.length : Int) gw gi gb n_).1 + 3))), (zu (vget img l ((ifind (img.length : Int) gw gi gb n_).1 + 4))), (zu (vget img l ((ifind (img.length : Int) gw gi gb n_).1 + 5))), (zu (vget img l ((ifind (img.length : Int) gw gi gb n_).1 + 6))), (zu (vget img l ((ifind (img.length : Int) gw gi gb n_).1 + 7))), (zu (vget img l ((ifind (img.length : Int) gw gi gb n_).1 + 8))), (zu (vget img l ((ifind (img.length : Int) gw gi gb n_).1 + 9)))] [(zu (vget img l ((ifind (img.length : Int) gw gi gb n_).1 + 0))), (zu (vget img l ((ifind (img.length : Int) gw gi gb n_).1 + 1))), (zu (vget img l ((ifind (img.length : Int) gw gi gb n_).1 + 2))), (zu (vget img l ((ifind (img.length : Int) gw gi gb n_).1 + 3))), (zu (vget img l ((ifind (img.length : Int) gw gi gb n_).1 + 4))), (zu (vget img l ((ifind (img.length : Int) gw gi gb n_).1 + 5))), (zu (vget img l ((ifind (img.length : Int) gw gi gb n_).1 + 6))), (zu (vget img l ((ifind (img.length : Int) gw gi gb n_).1 + 7))), (zu (vget img l ((ifind (img.length : Int) gw gi gb n_).1 + 8))), (zu (vget img l ((ifind (img.length : Int) gw gi gb n_).1 + 9)))] hs153 fun w151 hs154 => ?_
 refine zE 1 (hK150 _ _ ?_)
 refine W.ret ?_
 have e_ : igetM img l gw gi gb n_ = (ndAt img l (ifind (img.length : Int) gw gi gb n_).1, 0) := by first | (exfalso; omega) | (simp only [igetM]; rw [if_pos (by assumption)]; exact if_pos (by assumption))
 have hs155 := St.tk0 hs154
 refine ret_of (.tuple #[(.agg #[(zu (vget img l ((ifind (img.length : Int) gw gi gb n_).1 + 0))), (zu (vget img l ((ifind (img.length : Int) gw gi gb n_).1 + 1))), (zu (vget img l ((ifind (img.length : Int) gw gi gb n_).1 + 2))), (zu (vget img l ((ifind (img.length : Int) gw gi gb n_).1 + 3))), (zu (vget img l ((ifind (img.length : Int) gw gi gb n_).1 + 4))), (zu (vget img l ((ifind (img.length : Int) gw gi gb n_).1 + 5))), (zu (vget img l ((ifind (img.length : Int) gw gi gb n_).1 + 6))), (zu (vget img l ((ifind (img.length : Int) gw gi gb n_).1 + 7))), (zu (vget img l ((ifind (img.length : Int) gw gi gb n_).1 + 8))), (zu (vget img l ((ifind (img.length : Int) gw gi gb n_).1 + 9)))]), (zi 0)]) (results_cell2 (ad := ⟨b7, 0, none⟩) (cs := [(zu (vget img l ((ifind (img.length : Int) gw gi gb n_).1 + 0))), (zu (vget img l ((ifind (img.length : Int) gw gi gb n_).1 + 1))), (zu (vget img l ((ifind (img.length : Int) gw gi gb n_).1 + 2))), (zu (vget img l ((ifind (img.length : Int) gw gi gb n_).1 + 3))), (zu (vget img l ((ifind (img.length : Int) gw gi gb n_).1 + 4))), (zu (vget img l ((ifind (img.length : Int) gw gi gb n_).1 + 5))), (zu (vget img l ((ifind (img.length : Int) gw gi gb n_).1 + 6))), (zu (vget img l ((ifind (img.length : Int) gw gi gb n_).1 + 7))), (zu (vget img l ((ifind (img.length : Int) gw gi gb n_).1 + 8))), (zu (vget img l ((ifind (img.length : Int) gw gi gb n_).1 + 9)))]) rfl (by kernel_rfl) (by kernel_rfl) (by kernel_rfl) (cells_sub (hs154.heapAt 0 rfl) rfl)) ⟨_, ⟨by rw [e_]; try rfl, rfl⟩, hs155⟩
end Go.Proofs.YtmmclabkkigiaaaGreat

set_option maxRecDepth 20000
namespace Go.Proofs.YtmmclabkkigiaaaGreat
open Go Go.RowKit
theorem rnew_ok {p : Value} {img : List Int} {l : List (Int × Int)} {gw gi gb : Int} (B : Nat) (w : World) (hv : RefAt p img l w) (hz : (img.length : Int) ≤ 1000000000000) (hP : May gw gi gb ∧ wordsOf gw gi gb ≤ (img.length : Int)) : Spec Tryz.prog 53 #[p, (.agg #[(zi gw), (zi gi), (zi gb)])] B w [] (fun v H' => ∃ ab ib bb, v = .tuple #[ptr ab, .int .i64 0] ∧ H' = [zb ab 170 [p, (zi gw), (zi gi), (zi gb), (zp ib), (zp bb)], zb ib 168 [p, (zi (placeOf 6 gw gi gb 0)), (zi gi)], zb bb 168 [p, (zi (placeOf 7 gw gi gb 0)), (zi gb)]]) := by
 refine spec_Q Tryz.func53 rfl fun hs => ?_
 have hv0 := hv
 obtain ⟨x, rfl, hok, hb, hi, ho, hcap⟩ := hv
 have hroom := hok.many
 have hroom2 := hok.size
 have hm : May gw gi gb := hP.1
 have hl := hP.2
 have hm_ : (1 ≤ gw ∧ gw ≤ 4) ∧ (2 ≤ gi ∧ gi ≤ 64) ∧ (2 ≤ gb ∧ gb ≤ 512) := hm
 have hwd := words_may hm
 have hp6 := place6 hm
 have hp7 := place7 hm
 refine W.sr fun K1 hK1 => ?_
 refine zN [(zi gw), (zi gi), (zi gb)] 37 hs fun b4 w2 hs3 => ?_
 refine zE 2 (hK1 _ _ ?_)
 refine W.seq fun K5 hK5 => ?_
 refine W.sr fun K6 hK6 => ?_
 refine zG ⟨b4, 0, none⟩ [(zi gw), (zi gi), (zi gb)] (cells_sub (hs3.heapAt 0 rfl) rfl) ?_
 refine zC00 hs3 (rmay_spec (gw := gw) (gi := gi) (gb := gb) B _) fun w7 hs9 => ?_
 refine zE 1 (hK6 _ _ ?_)
 refine W.cond (!(decide (May gw gi gb))) (by kernel_rfl) (fun h10 => ?_) (fun h10 => ?_)
 ·
  have h10p : ¬ (May gw gi gb) := of_decide_eq_false (bnot_true h10)
  refine W.sr fun K11 hK11 => ?_
  refine zE 2 (hK11 _ _ ?_)
  refine W.ret (ret_seq ?_)
  exfalso
  first | omega | (exact absurd hm (by assumption))
 have h10p : May gw gi gb := of_decide_eq_true (bnot_false h10)
 refine W.skip ?_
 refine hK5 _ _ ?_
 refine W.seq fun K12 hK12 => ?_
 refine W.seq fun K13 hK13 => ?_
 have hs14 := hs9.drew
 refine W.regionD [(0, 0), (1, 1), (2, 2), (4, 4), (8, 8), (0, 0), (32, 32), (80, 80)] (fun w_ => St B w [] w_ [zb b4 37 [(zi gw), (zi gi), (zi gb)]]) (by kernel_rfl) hs14 ?_
 refine zA (zp x.b) 0 hs14 ?_
 refine zA (zp x.b) 1 hs14 ?_
 refine zA (zp x.b) 2 hs14 ?_
 refine zB 3 ⟨x.b, 0, none⟩ (.slice x.ia img.length x.ic) (fun _ hS_ => (cell_of_blk (hS_.old hb) rfl)) hs14 ?_
 refine zA (zi (img.length : Int)) 4 hs14 ?_
 refine any_R 5 (by kernel_rfl) (fun _ hS_ => runs_loadAgg (ad := ⟨b4, 0, none⟩) (cs := [(zi gw), (zi gi), (zi gb)]) (by kernel_rfl) (cells_sub (hS_.heapAt 0 rfl) rfl)) hs14 ?_
 refine any_step 6 (by kernel_rfl) (by kernel_rfl) ?_
 refine zC00 hs14 (rwords_spec (gw := gw) (gi := gi) (gb := gb) B _) fun w15 hs17 => ?_
 refine ops_done (by kernel_rfl) ⟨hs17, ?_⟩
 refine zA (.bool (decide ((img.length : Int) < (wordsOf gw gi gb)))) 7 hs17 ?_
 refine any_done (by kernel_rfl) ?_
 refine hK13 _ _ ?_
 refine W.cond (decide ((img.length : Int) < (wordsOf gw gi gb))) (by kernel_rfl) (fun h18 => ?_) (fun h18 => ?_)
 ·
  have h18p := of_decide_eq_true h18
  refine W.sr fun K19 hK19 => ?_
  refine zE 2 (hK19 _ _ ?_)
  refine W.ret (ret_seq ?_)
  exfalso
  first | omega | (exact absurd hm (by assumption))
 have h18p := of_decide_eq_false h18
 refine W.skip ?_
 refine hK12 _ _ ?_
 refine W.seq fun K20 hK20 => ?_
 have hs21 := hs17.drew
 refine W.regionD [(0, 0), (0, 0), (0, 0), (0, 0), (8, 8), (0, 0), (32, 32), (84, 84), (128, 128), (0, 0), (0, 0), (1040, 1024), (0, 0), (4096, 4096), (10752, 10752), (16384, 16384), (33027, 33027), (65536, 65536), (262143, 131072), (524287, 0)] (fun w_ => St B w [] w_ [zb b4 37 [(zi gw), (zi gi), (zi gb)]]) (by kernel_rfl) hs21 ?_
 refine zA (zp x.b) 0 hs21 ?_
 refine any_R 1 (by kernel_rfl) (fun _ hS_ => runs_loadAgg (ad := ⟨b4, 0, none⟩) (cs := [(zi gw), (zi gi), (zi gb)]) (by kernel_rfl) (cells_sub (hS_.heapAt 0 rfl) rfl)) hs21 ?_
 refine zA (zp x.b) 2 hs21 ?_
 refine any_R 3 (by kernel_rfl) (fun _ hS_ => runs_loadAgg (ad := ⟨b4, 0, none⟩) (cs := [(zi gw), (zi gi), (zi gb)]) (by kernel_rfl) (cells_sub (hS_.heapAt 0 rfl) rfl)) hs21 ?_
 refine zA (.pointer (some ⟨b4, 1, none⟩)) 5 hs21 ?_
 refine zB 6 ⟨b4, 1, none⟩ (zi gi) (fun _ hS_ => (hS_.cellAt 0 rfl rfl)) hs21 ?_
 refine zA (zp x.b) 9 hs21 ?_
 refine any_R 10 (by kernel_rfl) (fun _ hS_ => runs_loadAgg (ad := ⟨b4, 0, none⟩) (cs := [(zi gw), (zi gi), (zi gb)]) (by kernel_rfl) (cells_sub (hS_.heapAt 0 rfl) rfl)) hs21 ?_
 refine zA (.pointer (some ⟨b4, 2, none⟩)) 12 hs21 ?_
 refine zB 13 ⟨b4, 2, none⟩ (zi gb) (fun _ hS_ => (hS_.cellAt 0 rfl rfl)) hs21 ?_
 refine any_step 4 (by kernel_rfl) (by kernel_rfl) ?_
 refine zC00 hs21 (rmapat_spec (gw := gw) (gi := gi) (gb := gb) B _) fun w22 hs24 => ?_
 refine ops_done (by kernel_rfl) ⟨hs24, ?_⟩
 refine zA (.agg #[(zp x.b), (zi (placeOf 6 gw gi gb 0)), (zi gi)]) 7 hs24 ?_
 refine any_step2 8 11 (by kernel_rfl) (by kernel_rfl) (by kernel_rfl) ?_ ?_
 ·
  refine zN [(zp x.b), (zi (placeOf 6 gw gi gb 0)), (zi gi)] 168 hs24 fun b27 w25 hs26 => ?_
  have hs28 := St.f1 hs26
  have hs29 := St.tk1 hs28
  refine ops_done (by kernel_rfl) ⟨hs29, ?_⟩
  refine any_step 11 (by kernel_rfl) (by kernel_rfl) ?_
  refine zC00 hs26 (rbmapat_spec (gw := gw) (gi := gi) (gb := gb) B _) fun w30 hs32 => ?_
  have hs33 := St.f1 hs32
  have hs34 := St.tk1 hs33
  refine ops_done (by kernel_rfl) ⟨hs34, ?_⟩
  refine zA (.agg #[(zp x.b), (zi (placeOf 7 gw gi gb 0)), (zi gb)]) 14 hs34 ?_
  refine any_step 15 (by kernel_rfl) (by kernel_rfl) ?_
  refine zN [(zp x.b), (zi (placeOf 7 gw gi gb 0)), (zi gb)] 168 hs32 fun b37 w35 hs36 => ?_
  have hs38 := St.f2 hs36
  have hs39 := St.tk1 hs38
  refine ops_done (by kernel_rfl) ⟨hs39, ?_⟩
  refine zA (.agg #[(zp x.b), (zi gw), (zi gi), (zi gb), (zp b27), (zp b37)]) 16 hs39 ?_
  refine any_step 17 (by kernel_rfl) (by kernel_rfl) ?_
  refine zN [(zp x.b), (zi gw), (zi gi), (zi gb), (zp b27), (zp b37)] 170 hs36 fun b42 w40 hs41 => ?_
  have hs43 := St.f3 hs41
  have hs44 := St.tk1 hs43
  refine ops_done (by kernel_rfl) ⟨hs44, ?_⟩
  refine zA (zp b42) 18 hs44 ?_
  refine zA (zi 0) 19 hs44 ?_
  refine any_done (by kernel_rfl) ?_
  refine hK20 _ _ ?_
  refine W.ret ?_
  have hs45 := St.f1 hs41
  have hs46 := St.f2 hs45
  have hs47 := St.f2 hs46
  have hs48 := St.tk3 hs47
  refine ret_of (.tuple #[(zp b42), (zi 0)]) (by kernel_rfl) ⟨_, ⟨b42, b27, b37, rfl, rfl⟩, hs48⟩
 refine zC00 hs24 (rbmapat_spec (gw := gw) (gi := gi) (gb := gb) B _) fun w49 hs51 => ?_
 refine ops_done (by kernel_rfl) ⟨hs51, ?_⟩
 refine zA (.agg #[(zp x.b), (zi (placeOf 7 gw gi gb 0)), (zi gb)]) 14 hs51 ?_
 refine any_step2 8 15 (by kernel_rfl) (by kernel_rfl) (by kernel_rfl) ?_ ?_
 ·
  refine zN [(zp x.b), (zi (placeOf 6 gw gi gb 0)), (zi gi)] 168 hs51 fun b54 w52 hs53 => ?_
  have hs55 := St.f1 hs53
  have hs56 := St.tk1 hs55
  refine ops_done (by kernel_rfl) ⟨hs56, ?_⟩
  refine any_step 15 (by kernel_rfl) (by kernel_rfl) ?_
  refine zN [(zp x.b), (zi (placeOf 7 gw gi gb 0)), (zi gb)] 168 hs53 fun b59 w57 hs58 => ?_
  have hs60 := St.f2 hs58
  have hs61 := St.tk1 hs60
  refine ops_done (by kernel_rfl) ⟨hs61, ?_⟩
  refine zA (.agg #[(zp x.b), (zi gw), (zi gi), (zi gb), (zp b54), (zp b59)]) 16 hs61 ?_
  refine any_step 17 (by kernel_rfl) (by kernel_rfl) ?_
  refine zN [(zp x.b), (zi gw), (zi gi), (zi gb), (zp b54), (zp b59)] 170 hs58 fun b64 w62 hs63 => ?_
  have hs65 := St.f3 hs63
  have hs66 := St.tk1 hs65
  refine ops_done (by kernel_rfl) ⟨hs66, ?_⟩
  refine zA (zp b64) 18 hs66 ?_
  refine zA (zi 0) 19 hs66 ?_
  refine any_done (by kernel_rfl) ?_
  refine hK20 _ _ ?_
  refine W.ret ?_
  have hs67 := St.f1 hs63
  have hs68 := St.f2 hs67
  have hs69 := St.f2 hs68
  have hs70 := St.tk3 hs69
  refine ret_of (.tuple #[(zp b64), (zi 0)]) (by kernel_rfl) ⟨_, ⟨b64, b54, b59, rfl, rfl⟩, hs70⟩
 refine zN [(zp x.b), (zi (placeOf 7 gw gi gb 0)), (zi gb)] 168 hs51 fun b73 w71 hs72 => ?_
 have hs74 := St.f1 hs72
 have hs75 := St.tk1 hs74
 refine ops_done (by kernel_rfl) ⟨hs75, ?_⟩
 refine any_step 8 (by kernel_rfl) (by kernel_rfl) ?_
 refine zN [(zp x.b), (zi (placeOf 6 gw gi gb 0)), (zi gi)] 168 hs72 fun b78 w76 hs77 => ?_
 have hs79 := St.f2 hs77
 have hs80 := St.tk1 hs79
 refine ops_done (by kernel_rfl) ⟨hs80, ?_⟩
 refine zA (.agg #[(zp x.b), (zi gw), (zi gi), (zi gb), (zp b78), (zp b73)]) 16 hs80 ?_
 refine any_step 17 (by kernel_rfl) (by kernel_rfl) ?_
 refine zN [(zp x.b), (zi gw), (zi gi), (zi gb), (zp b78), (zp b73)] 170 hs77 fun b83 w81 hs82 => ?_
 have hs84 := St.f3 hs82
 have hs85 := St.tk1 hs84
 refine ops_done (by kernel_rfl) ⟨hs85, ?_⟩
 refine zA (zp b83) 18 hs85 ?_
 refine zA (zi 0) 19 hs85 ?_
 refine any_done (by kernel_rfl) ?_
 refine hK20 _ _ ?_
 refine W.ret ?_
 have hs86 := St.f2 hs82
 have hs87 := St.f2 hs86
 have hs88 := St.f2 hs87
 have hs89 := St.tk3 hs88
 refine ret_of (.tuple #[(zp b83), (zi 0)]) (by kernel_rfl) ⟨_, ⟨b83, b78, b73, rfl, rfl⟩, hs89⟩
theorem rnew_err {p : Value} {img : List Int} {l : List (Int × Int)} {gw gi gb : Int} (B : Nat) (w : World) (hv : RefAt p img l w) (hz : (img.length : Int) ≤ 1000000000000) (hN : ¬ (May gw gi gb ∧ wordsOf gw gi gb ≤ (img.length : Int))) : Spec Tryz.prog 53 #[p, (.agg #[(zi gw), (zi gi), (zi gb)])] B w [] (fun v H' => v = .tuple #[.pointer none, .int .i64 (if May gw gi gb then 8 else 1)] ∧ H' = []) := by
 refine spec_Q Tryz.func53 rfl fun hs => ?_
 have hv0 := hv
 obtain ⟨x, rfl, hok, hb, hi, ho, hcap⟩ := hv
 have hroom := hok.many
 have hroom2 := hok.size
 refine W.sr fun K1 hK1 => ?_
 refine zN [(zi gw), (zi gi), (zi gb)] 37 hs fun b4 w2 hs3 => ?_
 refine zE 2 (hK1 _ _ ?_)
 refine W.seq fun K5 hK5 => ?_
 refine W.sr fun K6 hK6 => ?_
 refine zG ⟨b4, 0, none⟩ [(zi gw), (zi gi), (zi gb)] (cells_sub (hs3.heapAt 0 rfl) rfl) ?_
 refine zC00 hs3 (rmay_spec (gw := gw) (gi := gi) (gb := gb) B _) fun w7 hs9 => ?_
 refine zE 1 (hK6 _ _ ?_)
 refine W.cond (!(decide (May gw gi gb))) (by kernel_rfl) (fun h10 => ?_) (fun h10 => ?_)
 ·
  have h10p : ¬ (May gw gi gb) := of_decide_eq_false (bnot_true h10)
  refine W.sr fun K11 hK11 => ?_
  refine zE 2 (hK11 _ _ ?_)
  refine W.ret (ret_seq ?_)
  have hs12 := St.tk0 hs9
  refine ret_of (.tuple #[(.pointer none), (zi 1)]) (by kernel_rfl) ⟨_, ⟨congrArg (fun z => Value.tuple #[.pointer none, .int .i64 z]) (if_neg (by assumption)).symm, rfl⟩, hs12⟩
 have h10p : May gw gi gb := of_decide_eq_true (bnot_false h10)
 refine W.skip ?_
 refine hK5 _ _ ?_
 refine W.seq fun K13 hK13 => ?_
 refine W.seq fun K14 hK14 => ?_
 have hs15 := hs9.drew
 refine W.regionD [(0, 0), (1, 1), (2, 2), (4, 4), (8, 8), (0, 0), (32, 32), (80, 80)] (fun w_ => St B w [] w_ [zb b4 37 [(zi gw), (zi gi), (zi gb)]]) (by kernel_rfl) hs15 ?_
 refine zA (zp x.b) 0 hs15 ?_
 refine zA (zp x.b) 1 hs15 ?_
 refine zA (zp x.b) 2 hs15 ?_
 refine zB 3 ⟨x.b, 0, none⟩ (.slice x.ia img.length x.ic) (fun _ hS_ => (cell_of_blk (hS_.old hb) rfl)) hs15 ?_
 refine zA (zi (img.length : Int)) 4 hs15 ?_
 refine any_R 5 (by kernel_rfl) (fun _ hS_ => runs_loadAgg (ad := ⟨b4, 0, none⟩) (cs := [(zi gw), (zi gi), (zi gb)]) (by kernel_rfl) (cells_sub (hS_.heapAt 0 rfl) rfl)) hs15 ?_
 refine any_step 6 (by kernel_rfl) (by kernel_rfl) ?_
 refine zC00 hs15 (rwords_spec (gw := gw) (gi := gi) (gb := gb) B _) fun w16 hs18 => ?_
 refine ops_done (by kernel_rfl) ⟨hs18, ?_⟩
 refine zA (.bool (decide ((img.length : Int) < (wordsOf gw gi gb)))) 7 hs18 ?_
 refine any_done (by kernel_rfl) ?_
 refine hK14 _ _ ?_
 refine W.cond (decide ((img.length : Int) < (wordsOf gw gi gb))) (by kernel_rfl) (fun h19 => ?_) (fun h19 => ?_)
 ·
  have h19p := of_decide_eq_true h19
  refine W.sr fun K20 hK20 => ?_
  refine zE 2 (hK20 _ _ ?_)
  refine W.ret (ret_seq ?_)
  have hs21 := St.tk0 hs18
  refine ret_of (.tuple #[(.pointer none), (zi 8)]) (by kernel_rfl) ⟨_, ⟨congrArg (fun z => Value.tuple #[.pointer none, .int .i64 z]) (if_pos (by assumption)).symm, rfl⟩, hs21⟩
 have h19p := of_decide_eq_false h19
 refine W.skip ?_
 refine hK13 _ _ ?_
 refine W.seq fun K22 hK22 => ?_
 have hs23 := hs18.drew
 refine W.regionD [(0, 0), (0, 0), (0, 0), (0, 0), (8, 8), (0, 0), (32, 32), (84, 84), (128, 128), (0, 0), (0, 0), (1040, 1024), (0, 0), (4096, 4096), (10752, 10752), (16384, 16384), (33027, 33027), (65536, 65536), (262143, 131072), (524287, 0)] (fun w_ => St B w [] w_ [zb b4 37 [(zi gw), (zi gi), (zi gb)]]) (by kernel_rfl) hs23 ?_
 refine zA (zp x.b) 0 hs23 ?_
 refine any_R 1 (by kernel_rfl) (fun _ hS_ => runs_loadAgg (ad := ⟨b4, 0, none⟩) (cs := [(zi gw), (zi gi), (zi gb)]) (by kernel_rfl) (cells_sub (hS_.heapAt 0 rfl) rfl)) hs23 ?_
 refine zA (zp x.b) 2 hs23 ?_
 refine any_R 3 (by kernel_rfl) (fun _ hS_ => runs_loadAgg (ad := ⟨b4, 0, none⟩) (cs := [(zi gw), (zi gi), (zi gb)]) (by kernel_rfl) (cells_sub (hS_.heapAt 0 rfl) rfl)) hs23 ?_
 refine zA (.pointer (some ⟨b4, 1, none⟩)) 5 hs23 ?_
 refine zB 6 ⟨b4, 1, none⟩ (zi gi) (fun _ hS_ => (hS_.cellAt 0 rfl rfl)) hs23 ?_
 refine zA (zp x.b) 9 hs23 ?_
 refine any_R 10 (by kernel_rfl) (fun _ hS_ => runs_loadAgg (ad := ⟨b4, 0, none⟩) (cs := [(zi gw), (zi gi), (zi gb)]) (by kernel_rfl) (cells_sub (hS_.heapAt 0 rfl) rfl)) hs23 ?_
 refine zA (.pointer (some ⟨b4, 2, none⟩)) 12 hs23 ?_
 refine zB 13 ⟨b4, 2, none⟩ (zi gb) (fun _ hS_ => (hS_.cellAt 0 rfl rfl)) hs23 ?_
 refine any_step 4 (by kernel_rfl) (by kernel_rfl) ?_
 refine zC00 hs23 (rmapat_spec (gw := gw) (gi := gi) (gb := gb) B _) fun w24 hs26 => ?_
 refine ops_done (by kernel_rfl) ⟨hs26, ?_⟩
 refine zA (.agg #[(zp x.b), (zi (placeOf 6 gw gi gb 0)), (zi gi)]) 7 hs26 ?_
 refine any_step2 8 11 (by kernel_rfl) (by kernel_rfl) (by kernel_rfl) ?_ ?_
 ·
  refine zN [(zp x.b), (zi (placeOf 6 gw gi gb 0)), (zi gi)] 168 hs26 fun b29 w27 hs28 => ?_
  have hs30 := St.f1 hs28
  have hs31 := St.tk1 hs30
  refine ops_done (by kernel_rfl) ⟨hs31, ?_⟩
  refine any_step 11 (by kernel_rfl) (by kernel_rfl) ?_
  refine zC00 hs28 (rbmapat_spec (gw := gw) (gi := gi) (gb := gb) B _) fun w32 hs34 => ?_
  have hs35 := St.f1 hs34
  have hs36 := St.tk1 hs35
  refine ops_done (by kernel_rfl) ⟨hs36, ?_⟩
  refine zA (.agg #[(zp x.b), (zi (placeOf 7 gw gi gb 0)), (zi gb)]) 14 hs36 ?_
  refine any_step 15 (by kernel_rfl) (by kernel_rfl) ?_
  refine zN [(zp x.b), (zi (placeOf 7 gw gi gb 0)), (zi gb)] 168 hs34 fun b39 w37 hs38 => ?_
  have hs40 := St.f2 hs38
  have hs41 := St.tk1 hs40
  refine ops_done (by kernel_rfl) ⟨hs41, ?_⟩
  refine zA (.agg #[(zp x.b), (zi gw), (zi gi), (zi gb), (zp b29), (zp b39)]) 16 hs41 ?_
  refine any_step 17 (by kernel_rfl) (by kernel_rfl) ?_
  refine zN [(zp x.b), (zi gw), (zi gi), (zi gb), (zp b29), (zp b39)] 170 hs38 fun b44 w42 hs43 => ?_
  have hs45 := St.f3 hs43
  have hs46 := St.tk1 hs45
  refine ops_done (by kernel_rfl) ⟨hs46, ?_⟩
  refine zA (zp b44) 18 hs46 ?_
  refine zA (zi 0) 19 hs46 ?_
  refine any_done (by kernel_rfl) ?_
  refine hK22 _ _ ?_
  refine W.ret ?_
  exfalso
  first | omega | (exact hN ⟨by assumption, by omega⟩)
 refine zC00 hs26 (rbmapat_spec (gw := gw) (gi := gi) (gb := gb) B _) fun w47 hs49 => ?_
 refine ops_done (by kernel_rfl) ⟨hs49, ?_⟩
 refine zA (.agg #[(zp x.b), (zi (placeOf 7 gw gi gb 0)), (zi gb)]) 14 hs49 ?_
 refine any_step2 8 15 (by kernel_rfl) (by kernel_rfl) (by kernel_rfl) ?_ ?_
 ·
  refine zN [(zp x.b), (zi (placeOf 6 gw gi gb 0)), (zi gi)] 168 hs49 fun b52 w50 hs51 => ?_
  have hs53 := St.f1 hs51
  have hs54 := St.tk1 hs53
  refine ops_done (by kernel_rfl) ⟨hs54, ?_⟩
  refine any_step 15 (by kernel_rfl) (by kernel_rfl) ?_
  refine zN [(zp x.b), (zi (placeOf 7 gw gi gb 0)), (zi gb)] 168 hs51 fun b57 w55 hs56 => ?_
  have hs58 := St.f2 hs56
  have hs59 := St.tk1 hs58
  refine ops_done (by kernel_rfl) ⟨hs59, ?_⟩
  refine zA (.agg #[(zp x.b), (zi gw), (zi gi), (zi gb), (zp b52), (zp b57)]) 16 hs59 ?_
  refine any_step 17 (by kernel_rfl) (by kernel_rfl) ?_
  refine zN [(zp x.b), (zi gw), (zi gi), (zi gb), (zp b52), (zp b57)] 170 hs56 fun b62 w60 hs61 => ?_
  have hs63 := St.f3 hs61
  have hs64 := St.tk1 hs63
  refine ops_done (by kernel_rfl) ⟨hs64, ?_⟩
  refine zA (zp b62) 18 hs64 ?_
  refine zA (zi 0) 19 hs64 ?_
  refine any_done (by kernel_rfl) ?_
  refine hK22 _ _ ?_
  refine W.ret ?_
  exfalso
  first | omega | (exact hN ⟨by assumption, by omega⟩)
 refine zN [(zp x.b), (zi (placeOf 7 gw gi gb 0)), (zi gb)] 168 hs49 fun b67 w65 hs66 => ?_
 have hs68 := St.f1 hs66
 have hs69 := St.tk1 hs68
 refine ops_done (by kernel_rfl) ⟨hs69, ?_⟩
 refine any_step 8 (by kernel_rfl) (by kernel_rfl) ?_
 refine zN [(zp x.b), (zi (placeOf 6 gw gi gb 0)), (zi gi)] 168 hs66 fun b72 w70 hs71 => ?_
 have hs73 := St.f2 hs71
 have hs74 := St.tk1 hs73
 refine ops_done (by kernel_rfl) ⟨hs74, ?_⟩
 refine zA (.agg #[(zp x.b), (zi gw), (zi gi), (zi gb), (zp b72), (zp b67)]) 16 hs74 ?_
 refine any_step 17 (by kernel_rfl) (by kernel_rfl) ?_
 refine zN [(zp x.b), (zi gw), (zi gi), (zi gb), (zp b72), (zp b67)] 170 hs71 fun b77 w75 hs76 => ?_
 have hs78 := St.f3 hs76
 have hs79 := St.tk1 hs78
 refine ops_done (by kernel_rfl) ⟨hs79, ?_⟩
 refine zA (zp b77) 18 hs79 ?_
 refine zA (zi 0) 19 hs79 ?_
 refine any_done (by kernel_rfl) ?_
 refine hK22 _ _ ?_
 refine W.ret ?_
 exfalso
 first | omega | (exact hN ⟨by assumption, by omega⟩)
end Go.Proofs.YtmmclabkkigiaaaGreat

set_option maxRecDepth 20000
namespace Go.Proofs.YtmmclabkkigiaaaGreat
open Go Go.RowKit
def rmget_M (img : List Int) (l : List (Int × Int)) (at_ : Int) (many : Int) (i_ : Int) : Option (Bool) :=
 if i_ ≥ 0 then (if i_ < many then (need (-9223372036854775808 ≤ (i_.tdiv 64) ∧ (i_.tdiv 64) ≤ 9223372036854775807) <|
need (-9223372036854775808 ≤ (at_ + (i_.tdiv 64)) ∧ (at_ + (i_.tdiv 64)) ≤ 9223372036854775807) <|
need (0 ≤ (i_.tmod 64) ∧ (i_.tmod 64) ≤ 18446744073709551615) <|
need (0 ≤ i_.tmod 64) <|
some (decide ((shrK .u64 (vget img l (at_ + (i_.tdiv 64))) (i_.tmod 64)).tmod 2 = 1))) else (some false)) else (some false)
theorem rmget_walk {img : List Int} {l : List (Int × Int)} {at_ : Int} {many : Int} {i_ : Int} {mb vb : Nat} {r : Bool} (B : Nat) (w : World) (hmb : w.heap[mb]? = some (.cells [(zp vb), (zi at_), (zi many)].toArray 168 (0, 0))) (hv : RefAt (ptr vb) img l w) (hm : rmget_M img l at_ many i_ = some r) : Spec Tryz.prog 105 #[(zp mb), (zi i_)] B w [] (fun v H' => v = .bool r ∧ H' = []) := by
 refine spec_Q Tryz.func105 rfl fun hs => ?_
 unfold rmget_M at hm
 refine W.sr fun K1 hK1 => ?_
 refine zE 1 (hK1 _ _ ?_)
 refine W.seq fun K2 hK2 => ?_
 have hs3 := hs.drew
 refine W.regionD [(0, 0), (1, 1), (2, 2), (4, 4), (4, 4), (20, 20), (36, 36), (68, 68), (140, 140), (260, 260), (516, 512), (1024, 1024), (3072, 3072), (5120, 5120), (9216, 9216), (1024, 1024), (33792, 33792), (66560, 66560), (132096, 132096), (1024, 1024), (525312, 525312), (1311744, 1311744), (2114560, 2114560), (1024, 1024), (8389632, 8389632), (16778240, 16778240), (37749760, 37749760), (67109888, 67109888), (134218752, 134218752), (268436480, 268436480), (1073741823, 536870912)] (fun w_ => St B w [] w_ []) (by kernel_rfl) hs3 ?_
 refine zA (zi i_) 0 hs3 ?_
 refine zA (.bool (decide (i_ ≥ 0))) 1 hs3 ?_
 refine zA (.bool (decide (i_ ≥ 0))) 2 hs3 ?_
 rcases Bool.eq_false_or_eq_true (decide (i_ ≥ 0)) with h4 | h4
 ·
  obtain ⟨h4p, hm⟩ := iY hm h4
  refine any_set 6 (v := .bool true) (eq_bool_of (by kernel_rfl) h4) ?_
  refine any_set 7 (v := .bool true) (eq_bool_of (by kernel_rfl) h4) ?_
  refine zA (zi i_) 3 hs3 ?_
  refine zA (zp mb) 4 hs3 ?_
  refine zA (zp mb) 5 hs3 ?_
  refine zA (.pointer (some ⟨mb, 2, none⟩)) 6 hs3 ?_
  refine zB 7 ⟨mb, 2, none⟩ (zi many) (fun _ hS_ => (cell_of_blk (hS_.old hmb) rfl)) hs3 ?_
  refine zA (.bool (decide (i_ < many))) 8 hs3 ?_
  refine zA (.bool (decide (i_ < many))) 9 hs3 ?_
  refine zA (.bool (decide (i_ < many))) 10 hs3 ?_
  rcases Bool.eq_false_or_eq_true (decide (i_ < many)) with h5 | h5
  ·
   obtain ⟨h5p, hm⟩ := iY hm h5
   refine any_set 13 (v := .bool true) (eq_bool_of (by kernel_rfl) h5) ?_
   refine any_set 14 (v := .bool true) (eq_bool_of (by kernel_rfl) h5) ?_
   refine any_set 15 (v := .bool true) (eq_bool_of (by kernel_rfl) h5) ?_
   refine zA (zp mb) 11 hs3 ?_
   refine zA (zp mb) 12 hs3 ?_
   refine zA (zp mb) 13 hs3 ?_
   refine zB 14 ⟨mb, 0, none⟩ (zp vb) (fun _ hS_ => (cell_of_blk (hS_.old hmb) rfl)) hs3 ?_
   refine zA (zp mb) 15 hs3 ?_
   refine zA (zp mb) 16 hs3 ?_
   refine zA (.pointer (some ⟨mb, 1, none⟩)) 17 hs3 ?_
   refine zB 18 ⟨mb, 1, none⟩ (zi at_) (fun _ hS_ => (cell_of_blk (hS_.old hmb) rfl)) hs3 ?_
   refine zA (zi i_) 19 hs3 ?_
   obtain ⟨h6, hm⟩ := need_some hm
   refine any_R (v := .int .i64 (i_.tdiv 64)) 20 (by kernel_rfl) (fun _ hS_ => runs_quo (k := .i64) (a := i_) (b := 64) (by kernel_rfl) (by decide) (wrap_i64 h6.1 h6.2)) hs3 ?_
   obtain ⟨h7, hm⟩ := need_some hm
   refine any_val (v := .int .i64 (IntKind.i64.wrap (at_ + (i_.tdiv 64)))) (v' := .int .i64 (at_ + (i_.tdiv 64))) 21 (by kernel_rfl) (fun _ => by kernel_rfl) (congrArg (Value.int .i64) (wrap_i64 h7.1 h7.2)) hs3 ?_
   refine zA (zi i_) 23 hs3 ?_
   refine zA (zi (i_.tmod 64)) 24 hs3 ?_
   obtain ⟨h8, hm⟩ := need_some hm
   refine any_val (v := .int .u64 (IntKind.u64.wrap (i_.tmod 64))) (v' := .int .u64 (i_.tmod 64)) 25 (by kernel_rfl) (fun _ => by kernel_rfl) (congrArg (Value.int .u64) (wrap_u64 h8.1 (Int.lt_of_le_of_lt h8.2 (by decide)))) hs3 ?_
   refine any_step 22 (by kernel_rfl) (by kernel_rfl) ?_
   refine zC00 hs3 (rget_spec (at_ := (at_ + (i_.tdiv 64))) (hv := (refAt_old hs3 hv)) B _) fun w9 hs11 => ?_
   refine ops_done (by kernel_rfl) ⟨hs11, ?_⟩
   obtain ⟨h12, hm⟩ := need_some hm
   refine any_R (v := .int .u64 (shrK .u64 (vget img l (at_ + (i_.tdiv 64))) (i_.tmod 64))) 26 (by kernel_rfl) (fun _ hS_ => runs_shift (b := false) (k := .u64) (x := (vget img l (at_ + (i_.tdiv 64)))) (y := i_.tmod 64) (by kernel_rfl) h12) hs11 ?_
   refine zA (zu ((shrK .u64 (vget img l (at_ + (i_.tdiv 64))) (i_.tmod 64)).tmod 2)) 27 hs11 ?_
   refine zA (.bool (decide ((shrK .u64 (vget img l (at_ + (i_.tdiv 64))) (i_.tmod 64)).tmod 2 = 1))) 28 hs11 ?_
   refine zA (.bool (decide ((shrK .u64 (vget img l (at_ + (i_.tdiv 64))) (i_.tmod 64)).tmod 2 = 1))) 29 hs11 ?_
   refine zA (.bool (decide ((shrK .u64 (vget img l (at_ + (i_.tdiv 64))) (i_.tmod 64)).tmod 2 = 1))) 30 hs11 ?_
   refine any_done (by kernel_rfl) ?_
   refine hK2 _ _ ?_
   refine W.ret ?_
   obtain rfl := some_inj hm
   refine ret_of (.bool (decide ((shrK .u64 (vget img l (at_ + (i_.tdiv 64))) (i_.tmod 64)).tmod 2 = 1))) (by kernel_rfl) ⟨_, ⟨rfl, rfl⟩, hs11⟩
  obtain ⟨h5p, hm⟩ := iN hm h5
  refine any_set 13 (v := .bool false) (eq_bool_of (by kernel_rfl) h5) ?_
  refine any_set 14 (v := .bool false) (eq_bool_of (by kernel_rfl) h5) ?_
  refine any_set 15 (v := .bool false) (eq_bool_of (by kernel_rfl) h5) ?_
  refine any_skip 11 (by kernel_rfl) (by kernel_rfl) hs3 ?_
  refine any_skip 12 (by kernel_rfl) (by kernel_rfl) hs3 ?_
  refine any_skip 13 (by kernel_rfl) (by kernel_rfl) hs3 ?_
  refine any_skip 14 (by kernel_rfl) (by kernel_rfl) hs3 ?_
  refine any_skip 15 (by kernel_rfl) (by kernel_rfl) hs3 ?_
  refine any_skip 16 (by kernel_rfl) (by kernel_rfl) hs3 ?_
  refine any_skip 17 (by kernel_rfl) (by kernel_rfl) hs3 ?_
  refine any_skip 18 (by kernel_rfl) (by kernel_rfl) hs3 ?_
  refine any_skip 19 (by kernel_rfl) (by kernel_rfl) hs3 ?_
  refine any_skip 20 (by kernel_rfl) (by kernel_rfl) hs3 ?_
  refine any_skip 21 (by kernel_rfl) (by kernel_rfl) hs3 ?_
  refine any_skip 22 (by kernel_rfl) (by kernel_rfl) hs3 ?_
  refine any_skip 23 (by kernel_rfl) (by kernel_rfl) hs3 ?_
  refine any_skip 24 (by kernel_rfl) (by kernel_rfl) hs3 ?_
  refine any_skip 25 (by kernel_rfl) (by kernel_rfl) hs3 ?_
  refine any_skip 26 (by kernel_rfl) (by kernel_rfl) hs3 ?_
  refine any_skip 27 (by kernel_rfl) (by kernel_rfl) hs3 ?_
  refine any_skip 28 (by kernel_rfl) (by kernel_rfl) hs3 ?_
  refine zA (.bool false) 29 hs3 ?_
  refine zA (.bool false) 30 hs3 ?_
  refine any_done (by kernel_rfl) ?_
  refine hK2 _ _ ?_
  refine W.ret ?_
  obtain rfl := some_inj hm
  refine ret_of (.bool false) (by kernel_rfl) ⟨_, ⟨rfl, rfl⟩, hs3⟩
 obtain ⟨h4p, hm⟩ := iN hm h4
 refine any_set 6 (v := .bool false) (eq_bool_of (by kernel_rfl) h4) ?_
 refine any_set 7 (v := .bool false) (eq_bool_of (by kernel_rfl) h4) ?_
 refine any_skip 3 (by kernel_rfl) (by kernel_rfl) hs3 ?_
 refine any_skip 4 (by kernel_rfl) (by kernel_rfl) hs3 ?_
 refine any_skip 5 (by kernel_rfl) (by kernel_rfl) hs3 ?_
 refine any_skip 6 (by kernel_rfl) (by kernel_rfl) hs3 ?_
 refine any_skip 7 (by kernel_rfl) (by kernel_rfl) hs3 ?_
 refine any_skip 8 (by kernel_rfl) (by kernel_rfl) hs3 ?_
 refine zA (.bool false) 9 hs3 ?_
 refine zA (.bool false) 10 hs3 ?_
 refine any_skip 11 (by kernel_rfl) (by kernel_rfl) hs3 ?_
 refine any_skip 12 (by kernel_rfl) (by kernel_rfl) hs3 ?_
 refine any_skip 13 (by kernel_rfl) (by kernel_rfl) hs3 ?_
 refine any_skip 14 (by kernel_rfl) (by kernel_rfl) hs3 ?_
 refine any_skip 15 (by kernel_rfl) (by kernel_rfl) hs3 ?_
 refine any_skip 16 (by kernel_rfl) (by kernel_rfl) hs3 ?_
 refine any_skip 17 (by kernel_rfl) (by kernel_rfl) hs3 ?_
 refine any_skip 18 (by kernel_rfl) (by kernel_rfl) hs3 ?_
 refine any_skip 19 (by kernel_rfl) (by kernel_rfl) hs3 ?_
 refine any_skip 20 (by kernel_rfl) (by kernel_rfl) hs3 ?_
 refine any_skip 21 (by kernel_rfl) (by kernel_rfl) hs3 ?_
 refine any_skip 22 (by kernel_rfl) (by kernel_rfl) hs3 ?_
 refine any_skip 23 (by kernel_rfl) (by kernel_rfl) hs3 ?_
 refine any_skip 24 (by kernel_rfl) (by kernel_rfl) hs3 ?_
 refine any_skip 25 (by kernel_rfl) (by kernel_rfl) hs3 ?_
 refine any_skip 26 (by kernel_rfl) (by kernel_rfl) hs3 ?_
 refine any_skip 27 (by kernel_rfl) (by kernel_rfl) hs3 ?_
 refine any_skip 28 (by kernel_rfl) (by kernel_rfl) hs3 ?_
 refine zA (.bool false) 29 hs3 ?_
 refine zA (.bool false) 30 hs3 ?_
 refine any_done (by kernel_rfl) ?_
 refine hK2 _ _ ?_
 refine W.ret ?_
 obtain rfl := some_inj hm
 refine ret_of (.bool false) (by kernel_rfl) ⟨_, ⟨rfl, rfl⟩, hs3⟩
def rmset_J1 (img : List Int) (l : List (Int × Int)) (at_ : Int) (i_ : Int) (p20 : Int) : Option (Int × List (Int × Int)) :=
 need (-9223372036854775808 ≤ (i_.tdiv 64) ∧ (i_.tdiv 64) ≤ 9223372036854775807) <|
need (-9223372036854775808 ≤ (at_ + (i_.tdiv 64)) ∧ (at_ + (i_.tdiv 64)) ≤ 9223372036854775807) <|
(some (vput img l (at_ + (i_.tdiv 64)) p20)).bind fun r29 =>
some (r29.1, r29.2)
def rmset_M (img : List Int) (l : List (Int × Int)) (at_ : Int) (many : Int) (i_ : Int) (is_ : Bool) : Option (Int × List (Int × Int)) :=
 if i_ < 0 then (some (8, l)) else (if i_ ≥ many then (some (8, l)) else (need (-9223372036854775808 ≤ (i_.tdiv 64) ∧ (i_.tdiv 64) ≤ 9223372036854775807) <|
need (-9223372036854775808 ≤ (at_ + (i_.tdiv 64)) ∧ (at_ + (i_.tdiv 64)) ≤ 9223372036854775807) <|
need (0 ≤ (i_.tmod 64) ∧ (i_.tmod 64) ≤ 18446744073709551615) <|
need (0 ≤ i_.tmod 64) <|
(some (shlK .u64 1 (i_.tmod 64))).bind fun r18 =>
(rmget_M img l at_ many i_).bind fun r40 =>
if ((is_ = true) ↔ (r40 = true)) then (rmset_J1 img l at_ i_ (vget img l (at_ + (i_.tdiv 64)))) else ((some (bits .xor .u64 (vget img l (at_ + (i_.tdiv 64))) r18)).bind fun r47 =>
rmset_J1 img l at_ i_ r47)))
theorem rmset_walk {img : List Int} {l : List (Int × Int)} {at_ : Int} {many : Int} {i_ : Int} {is_ : Bool} {mb vb : Nat} {r : Int × List (Int × Int)} (B : Nat) (w : World) (hm : rmset_M img l at_ many i_ is_ = some r) : Spec Tryz.prog 123 #[(zp mb), (zi i_), (.bool is_)] B w [zb mb 168 [(zp vb), (zi at_), (zi many)], refA (ptr vb) img l] (fun v H' => v = .int .i64 r.1 ∧ H' = [zb mb 168 [(zp vb), (zi at_), (zi many)], refA (ptr vb) img r.2]) := by
 refine spec_W Tryz.func123 rfl fun l0 hs => ?_
 unfold rmset_M at hm
 refine W.sr fun K1 hK1 => ?_
 refine zE 1 (hK1 _ _ ?_)
 refine W.seq fun K2 hK2 => ?_
 refine W.sr fun K3 hK3 => ?_
 refine zR 3 ?_
 rcases Bool.eq_false_or_eq_true (decide (i_ < 0)) with h4 | h4
 ·
  obtain ⟨h4p, hm⟩ := iY hm h4
  refine zS 11 h4 ?_
  refine zS 10 h4 ?_
  refine zE 7 (hK3 _ _ ?_)
  refine W.cond_true true (by kernel_rfl) rfl ?_
  refine W.sr fun K5 hK5 => ?_
  refine zE 1 (hK5 _ _ ?_)
  refine W.ret (ret_seq ?_)
  obtain rfl := some_inj hm
  refine ret_of (zi 8) (by kernel_rfl) ⟨_, ⟨rfl, rfl⟩, hs⟩
 obtain ⟨h4p, hm⟩ := iN hm h4
 refine zS 11 h4 ?_
 refine zS 10 h4 ?_
 refine zR 4 ?_
 refine zL ⟨mb, 2, none⟩ (zi many) (hs.cellAt 0 rfl rfl) ?_
 refine zE 2 (hK3 _ _ ?_)
 refine W.cond (decide (i_ ≥ many)) (by kernel_rfl) (fun h6 => ?_) (fun h6 => ?_)
 ·
  obtain ⟨h6p, hm⟩ := iY hm h6
  refine W.sr fun K7 hK7 => ?_
  refine zE 1 (hK7 _ _ ?_)
  refine W.ret (ret_seq ?_)
  obtain rfl := some_inj hm
  refine ret_of (zi 8) (by kernel_rfl) ⟨_, ⟨rfl, rfl⟩, hs⟩
 obtain ⟨h6p, hm⟩ := iN hm h6
 refine W.skip ?_
 refine hK2 _ _ ?_
 refine W.seq fun K8 hK8 => ?_
 have hs9 := hs.drew
 refine W.regionD [(0, 0), (1, 1), (2, 2), (4, 4), (0, 0), (16, 16), (32, 32), (64, 64), (0, 0), (256, 256), (640, 640), (1032, 1032), (4095, 2048)] (fun w_ => St B w l0 w_ [zb mb 168 [(zp vb), (zi at_), (zi many)], refA (ptr vb) img l]) (by kernel_rfl) hs9 ?_
 refine zA (zp mb) 0 hs9 ?_
 refine zA (zp mb) 1 hs9 ?_
 refine zA (zp mb) 2 hs9 ?_
 refine zB 3 ⟨mb, 0, none⟩ (zp vb) (fun _ hS_ => (hS_.cellAt 0 rfl rfl)) hs9 ?_
 refine zA (zp mb) 4 hs9 ?_
 refine zA (zp mb) 5 hs9 ?_
 refine zA (.pointer (some ⟨mb, 1, none⟩)) 6 hs9 ?_
 refine zB 7 ⟨mb, 1, none⟩ (zi at_) (fun _ hS_ => (hS_.cellAt 0 rfl rfl)) hs9 ?_
 refine zA (zi i_) 8 hs9 ?_
 obtain ⟨h10, hm⟩ := need_some hm
 refine any_R (v := .int .i64 (i_.tdiv 64)) 9 (by kernel_rfl) (fun _ hS_ => runs_quo (k := .i64) (a := i_) (b := 64) (by kernel_rfl) (by decide) (wrap_i64 h10.1 h10.2)) hs9 ?_
 obtain ⟨h11, hm⟩ := need_some hm
 refine any_val (v := .int .i64 (IntKind.i64.wrap (at_ + (i_.tdiv 64)))) (v' := .int .i64 (at_ + (i_.tdiv 64))) 10 (by kernel_rfl) (fun _ => by kernel_rfl) (congrArg (Value.int .i64) (wrap_i64 h11.1 h11.2)) hs9 ?_
 refine any_step 11 (by kernel_rfl) (by kernel_rfl) ?_
 refine zC00 hs9 (rget_spec (at_ := (at_ + (i_.tdiv 64))) (hv := (hs9.entAt 1 rfl refA_at)) B _) fun w12 hs14 => ?_
 refine ops_done (by kernel_rfl) ⟨hs14, ?_⟩
 refine zA (zu (vget img l (at_ + (i_.tdiv 64)))) 12 hs14 ?_
 refine any_done (by kernel_rfl) ?_
 refine hK8 _ _ ?_
 refine W.sr fun K15 hK15 => ?_
 refine zR 2 ?_
 obtain ⟨h16, hm⟩ := need_some hm
 refine zI _ (wrap_u64 h16.1 (Int.lt_of_le_of_lt h16.2 (by decide))) ?_
 obtain ⟨h17, hm⟩ := need_some hm
 refine ops_R (v := .int .u64 (shlK .u64 1 (i_.tmod 64))) (runs_shift (b := true) (k := .u64) (x := 1) (y := i_.tmod 64) (by kernel_rfl) h17) ?_
 refine zR 1 ?_
 obtain ⟨r18, h19, hm⟩ := bind_some hm
 replace h19 := some_inj h19
 refine ops_set 8 (v := .int .u64 r18) (Eq.trans (by kernel_rfl) (congrArg (Value.int .u64) h19)) ?_
 refine zD (hK15 _ _ ?_)
 refine W.seq_join (fun s_ w_ => ∃ (p20 : Int), (∃ us, s_ = slots 56 [(0, (zp mb)), (1, (zi i_)), (7, (zu p20))] us) ∧ St B w l0 w_ [refA (ptr vb) img l, zb mb 168 [(zp vb), (zi at_), (zi many)]] ∧ rmset_J1 img l at_ i_ p20 = some r) ?_ ?_
 ·
  rintro _ w21 ⟨p20, ⟨us, rfl⟩, hs22, hm⟩
  unfold rmset_J1 at hm
  refine W.seq fun K23 hK23 => ?_
  have hs24 := hs22.drew
  have hs25 := St.f1 hs24
  have hs26 := St.tk1 hs25
  refine W.regionD [(0, 0), (1, 1), (2, 2), (4, 4), (0, 0), (16, 16), (32, 32), (64, 64), (0, 0), (256, 256), (640, 640), (0, 0), (3080, 3080), (8191, 4096)] (fun w_ => St B w l0 w_ [zb mb 168 [(zp vb), (zi at_), (zi many)]]) (by kernel_rfl) hs26 ?_
  refine zA (zp mb) 0 hs26 ?_
  refine zA (zp mb) 1 hs26 ?_
  refine zA (zp mb) 2 hs26 ?_
  refine zB 3 ⟨mb, 0, none⟩ (zp vb) (fun _ hS_ => (hS_.cellAt 0 rfl rfl)) hs26 ?_
  refine zA (zp mb) 4 hs26 ?_
  refine zA (zp mb) 5 hs26 ?_
  refine zA (.pointer (some ⟨mb, 1, none⟩)) 6 hs26 ?_
  refine zB 7 ⟨mb, 1, none⟩ (zi at_) (fun _ hS_ => (hS_.cellAt 0 rfl rfl)) hs26 ?_
  refine zA (zi i_) 8 hs26 ?_
  obtain ⟨h27, hm⟩ := need_some hm
  refine any_R (v := .int .i64 (i_.tdiv 64)) 9 (by kernel_rfl) (fun _ hS_ => runs_quo (k := .i64) (a := i_) (b := 64) (by kernel_rfl) (by decide) (wrap_i64 h27.1 h27.2)) hs26 ?_
  obtain ⟨h28, hm⟩ := need_some hm
  refine any_val (v := .int .i64 (IntKind.i64.wrap (at_ + (i_.tdiv 64)))) (v' := .int .i64 (at_ + (i_.tdiv 64))) 10 (by kernel_rfl) (fun _ => by kernel_rfl) (congrArg (Value.int .i64) (wrap_i64 h28.1 h28.2)) hs26 ?_
  refine zA (zu p20) 11 hs26 ?_
  refine any_step 12 (by kernel_rfl) (by kernel_rfl) ?_
  obtain ⟨r29, h30, hm⟩ := bind_some hm
  replace h30 := some_inj h30
  refine ops_call1 hs24 (by kernel_rfl) (rput_spec (p := (zp vb)) (img := img) (l := l) (at_ := (at_ + (i_.tdiv 64))) (x_ := p20) B _) ?_
  rintro _ _ w33 ⟨hv31, hH32⟩ hs34
  rw [h30] at hv31
  try rw [h30] at hH32
  subst hv31 hH32
  have hs35 := St.ap1 hs34
  have hs36 := St.f1 hs35
  have hs37 := St.tk1 hs36
  refine ops_done (by kernel_rfl) ⟨hs37, ?_⟩
  refine zA (zi r29.1) 13 hs37 ?_
  refine any_done (by kernel_rfl) ?_
  refine hK23 _ _ ?_
  refine W.ret ?_
  obtain rfl := some_inj hm
  have hs38 := St.f1 hs35
  refine ret_of (zi r29.1) (by kernel_rfl) ⟨_, ⟨rfl, rfl⟩, hs38⟩
 refine W.sr fun K39 hK39 => ?_
 refine zR 3 ?_
 obtain ⟨r40, h41, hm⟩ := bind_some hm
 refine zC00 hs14 (rmget_walk (hmb := (hs14.heapAt 0 rfl)) (hv := (hs14.entAt 1 rfl refA_at)) (hm := h41) B _) fun w42 hs44 => ?_
 refine zE 1 (hK39 _ _ ?_)
 refine W.cond (!(is_ == r40)) (by kernel_rfl) (fun h45 => ?_) (fun h45 => ?_)
 rotate_left
 ·
  have h45p : ((is_ = true) ↔ (r40 = true)) := beq_yes Iff.rfl Iff.rfl (bnot_false h45)
  replace hm := ite_yes hm h45p
  refine W.skip ?_
  have hs46 := St.f1 hs44
  exact ⟨(vget img l (at_ + (i_.tdiv 64))), slots_intro _ (by kernel_rfl), hs46, hm⟩
 have h45p : ¬ ((is_ = true) ↔ (r40 = true)) := beq_no Iff.rfl Iff.rfl (bnot_true h45)
 replace hm := ite_no hm h45p
 refine W.region ?_
 refine zR 4 ?_
 obtain ⟨r47, h48, hm⟩ := bind_some hm
 replace h48 := some_inj h48
 refine ops_set 7 (v := .int .u64 r47) (Eq.trans (by kernel_rfl) (congrArg (Value.int .u64) h48)) ?_
 refine zD ?_
 have hs49 := St.f1 hs44
 exact ⟨r47, slots_intro _ (by kernel_rfl), hs49, hm⟩
def rmclear_B0 (img : List Int) (l : List (Int × Int)) (at_ : Int) (many : Int) (k5 : Int → Option (Int × Bool)) (p4 : Int) : Option (Int × Bool) :=
 if p4 < many then ((rmget_M img l at_ many p4).bind fun r14 =>
if r14 = true then (need (-9223372036854775808 ≤ (p4 + 1) ∧ (p4 + 1) ≤ 9223372036854775807) <|
k5 (p4 + 1)) else (some (p4, true))) else (some (0, false))
def rmclear_M (img : List Int) (l : List (Int × Int)) (at_ : Int) (many : Int) : Option (Int × Bool) :=
 iter (fun k_ s_ => rmclear_B0 img l at_ many k_ s_) FUEL 0
theorem rmclear_walk {img : List Int} {l : List (Int × Int)} {at_ : Int} {many : Int} {mb vb : Nat} {r : Int × Bool} (B : Nat) (w : World) (hmb : w.heap[mb]? = some (.cells [(zp vb), (zi at_), (zi many)].toArray 168 (0, 0))) (hv : RefAt (ptr vb) img l w) (hm : rmclear_M img l at_ many = some r) : Spec Tryz.prog 122 #[(zp mb)] B w [] (fun v H' => v = .tuple #[.int .i64 r.1, .bool r.2] ∧ H' = []) := by
 refine spec_Q Tryz.func122 rfl fun hs => ?_
 unfold rmclear_M at hm
 refine W.sr fun K1 hK1 => ?_
 refine zE 2 (hK1 _ _ ?_)
 refine W.seq fun K2 hK2 => ?_
 refine W.sr fun K3 hK3 => ?_
 refine zE 1 (hK3 _ _ ?_)
 refine W.block ?_
 refine W.loop_iter (G := Int) (σ := Int) (fun | p4 => p4) (fun | p4, s_, w_ => (∃ us, s_ = slots 18 [(0, (zp mb)), (4, (zi p4))] us) ∧ St B w [] w_ []) 0 ⟨slots_intro _ (by kernel_rfl), hs⟩ hm ?_
 rintro k5 ih6 p4 _ w7 ⟨⟨us, rfl⟩, hs8⟩ hm
 replace hm : rmclear_B0 img l at_ many k5 p4 = some r := hm
 unfold rmclear_B0 at hm
 refine W.seq fun K9 hK9 => ?_
 refine W.sr fun K10 hK10 => ?_
 refine zR 4 ?_
 refine zL ⟨mb, 2, none⟩ (zi many) (cell_of_blk (hs8.old hmb) rfl) ?_
 refine zE 1 (hK10 _ _ ?_)
 refine W.cond (decide (p4 < many)) (by kernel_rfl) (fun h11 => ?_) (fun h11 => ?_)
 ·
  obtain ⟨h11p, hm⟩ := iY hm h11
  refine W.skip ?_
  refine hK9 _ _ ?_
  refine W.seq fun K12 hK12 => ?_
  refine W.block ?_
  refine W.sr fun K13 hK13 => ?_
  refine zR 2 ?_
  obtain ⟨r14, h15, hm⟩ := bind_some hm
  refine zC00 hs8 (rmget_walk (hmb := (hs8.old hmb)) (hv := (refAt_old hs8 hv)) (hm := h15) B _) fun w16 hs18 => ?_
  refine zE 1 (hK13 _ _ ?_)
  refine W.cond (!r14) (by kernel_rfl) (fun h19 => ?_) (fun h19 => ?_)
  rotate_left
  ·
   have h19p : r14 = true := (bnot_false h19)
   replace hm := ite_yes hm h19p
   refine W.skip ?_
   refine normal_block ?_
   refine hK12 _ _ ?_
   refine W.region ?_
   refine zR 1 ?_
   obtain ⟨h20, hm⟩ := need_some hm
   refine zI _ (wrap_i64 h20.1 h20.2) ?_
   refine zE 1 ?_
   refine loopAt_next ?_
   exact ih6 (p4 + 1) _ _ ⟨slots_intro _ (by kernel_rfl), hs18⟩ hm
  have h19p : ¬ (r14 = true) := ne_true_of_eq_false (bnot_true h19)
  replace hm := ite_no hm h19p
  refine W.sr fun K21 hK21 => ?_
  refine zE 3 (hK21 _ _ ?_)
  refine W.ret (ret_block (ret_seq (ret_seq (ret_block (ret_seq ?_)))))
  obtain rfl := some_inj hm
  refine ret_of (.tuple #[(zi p4), (.bool true)]) (by kernel_rfl) ⟨_, ⟨rfl, rfl⟩, hs18⟩
 obtain ⟨h11p, hm⟩ := iN hm h11
 refine W.exit (exit_seq (exit_seq (exit_here ?_)))
 refine hK2 _ _ ?_
 refine W.sr fun K22 hK22 => ?_
 refine zE 2 (hK22 _ _ ?_)
 refine W.ret ?_
 obtain rfl := some_inj hm
 refine ret_of (.tuple #[(zi 0), (.bool false)]) (by kernel_rfl) ⟨_, ⟨rfl, rfl⟩, hs8⟩
def rmcount_B0 (img : List Int) (l : List (Int × Int)) (at_ : Int) (many : Int) (k7 : (Int × Int) → Option (Int)) (p5 : Int) (p6 : Int) : Option (Int) :=
 if p6 < many then ((rmget_M img l at_ many p6).bind fun r16 =>
if r16 = true then (need (-9223372036854775808 ≤ (p5 + 1) ∧ (p5 + 1) ≤ 9223372036854775807) <|
need (-9223372036854775808 ≤ (p6 + 1) ∧ (p6 + 1) ≤ 9223372036854775807) <|
k7 ((p5 + 1), (p6 + 1))) else (need (-9223372036854775808 ≤ (p6 + 1) ∧ (p6 + 1) ≤ 9223372036854775807) <|
k7 (p5, (p6 + 1)))) else (some p5)
def rmcount_M (img : List Int) (l : List (Int × Int)) (at_ : Int) (many : Int) : Option (Int) :=
 iter (fun k_ s_ => rmcount_B0 img l at_ many k_ s_.1 s_.2) FUEL (0, 0)
theorem rmcount_walk {img : List Int} {l : List (Int × Int)} {at_ : Int} {many : Int} {mb vb : Nat} {r : Int} (B : Nat) (w : World) (hmb : w.heap[mb]? = some (.cells [(zp vb), (zi at_), (zi many)].toArray 168 (0, 0))) (hv : RefAt (ptr vb) img l w) (hm : rmcount_M img l at_ many = some r) : Spec Tryz.prog 86 #[(zp mb)] B w [] (fun v H' => v = .int .i64 r ∧ H' = []) := by
 refine spec_Q Tryz.func86 rfl fun hs => ?_
 unfold rmcount_M at hm
 refine W.sr fun K1 hK1 => ?_
 refine zE 1 (hK1 _ _ ?_)
 refine W.sr fun K2 hK2 => ?_
 refine zE 1 (hK2 _ _ ?_)
 refine W.seq fun K3 hK3 => ?_
 refine W.sr fun K4 hK4 => ?_
 refine zE 1 (hK4 _ _ ?_)
 refine W.block ?_
 refine W.loop_iter (G := Int × Int) (σ := Int × Int) (fun | (p5, p6) => (p5, p6)) (fun | (p5, p6), s_, w_ => (∃ us, s_ = slots 19 [(0, (zp mb)), (3, (zi p5)), (4, (zi p6))] us) ∧ St B w [] w_ []) (0, 0) ⟨slots_intro _ (by kernel_rfl), hs⟩ hm ?_
 rintro k7 ih8 ⟨p5, p6⟩ _ w9 ⟨⟨us, rfl⟩, hs10⟩ hm
 replace hm : rmcount_B0 img l at_ many k7 p5 p6 = some r := hm
 unfold rmcount_B0 at hm
 refine W.seq fun K11 hK11 => ?_
 refine W.sr fun K12 hK12 => ?_
 refine zR 4 ?_
 refine zL ⟨mb, 2, none⟩ (zi many) (cell_of_blk (hs10.old hmb) rfl) ?_
 refine zE 1 (hK12 _ _ ?_)
 refine W.cond (decide (p6 < many)) (by kernel_rfl) (fun h13 => ?_) (fun h13 => ?_)
 ·
  obtain ⟨h13p, hm⟩ := iY hm h13
  refine W.skip ?_
  refine hK11 _ _ ?_
  refine W.seq fun K14 hK14 => ?_
  refine W.block ?_
  refine W.sr fun K15 hK15 => ?_
  refine zR 2 ?_
  obtain ⟨r16, h17, hm⟩ := bind_some hm
  refine zC00 hs10 (rmget_walk (hmb := (hs10.old hmb)) (hv := (refAt_old hs10 hv)) (hm := h17) B _) fun w18 hs20 => ?_
  refine zD (hK15 _ _ ?_)
  refine W.cond r16 (by kernel_rfl) (fun h21 => ?_) (fun h21 => ?_)
  ·
   have h21p : r16 = true := h21
   replace hm := ite_yes hm h21p
   refine W.region ?_
   refine zR 1 ?_
   obtain ⟨h22, hm⟩ := need_some hm
   refine zI _ (wrap_i64 h22.1 h22.2) ?_
   refine zE 1 ?_
   refine normal_block ?_
   refine hK14 _ _ ?_
   refine W.region ?_
   refine zR 1 ?_
   obtain ⟨h23, hm⟩ := need_some hm
   refine zI _ (wrap_i64 h23.1 h23.2) ?_
   refine zE 1 ?_
   refine loopAt_next ?_
   exact ih8 ((p5 + 1), (p6 + 1)) _ _ ⟨slots_intro _ (by kernel_rfl), hs20⟩ hm
  have h21p : ¬ (r16 = true) := ne_true_of_eq_false h21
  replace hm := ite_no hm h21p
  refine W.skip ?_
  refine normal_block ?_
  refine hK14 _ _ ?_
  refine W.region ?_
  refine zR 1 ?_
  obtain ⟨h24, hm⟩ := need_some hm
  refine zI _ (wrap_i64 h24.1 h24.2) ?_
  refine zE 1 ?_
  refine loopAt_next ?_
  exact ih8 (p5, (p6 + 1)) _ _ ⟨slots_intro _ (by kernel_rfl), hs20⟩ hm
 obtain ⟨h13p, hm⟩ := iN hm h13
 refine W.exit (exit_seq (exit_seq (exit_here ?_)))
 refine hK3 _ _ ?_
 refine W.sr fun K25 hK25 => ?_
 refine zE 2 (hK25 _ _ ?_)
 refine W.ret ?_
 obtain rfl := some_inj hm
 refine ret_of (zi p5) (by kernel_rfl) ⟨_, ⟨rfl, rfl⟩, hs10⟩
end Go.Proofs.YtmmclabkkigiaaaGreat

set_option maxRecDepth 20000
namespace Go.Proofs.YtmmclabkkigiaaaGreat
open Go Go.RowKit
def rtakeb_J1 (r3 : Int × Bool) (p19 : Int) (l20 : List (Int × Int)) : Option (Int × Int × List (Int × Int)) :=
 if p19 = 0 then (some (r3.1, 0, l20)) else (some (0, p19, l20))
def rtakeb_B0 (img : List Int) (gw : Int) (gi : Int) (gb : Int) (r3 : Int × Bool) (k38 : ((List (Int × Int)) × Int × Int) → Option (Int × Int × List (Int × Int))) (l35 : List (Int × Int)) (p36 : Int) (p37 : Int) : Option (Int × Int × List (Int × Int)) :=
 if p37 < 8 then (if p36 = 0 then (need (-9223372036854775808 ≤ ((placeOf 9 gw gi gb r3.1) + p37) ∧ ((placeOf 9 gw gi gb r3.1) + p37) ≤ 9223372036854775807) <|
(some (vput img l35 ((placeOf 9 gw gi gb r3.1) + p37) 0)).bind fun r64 =>
need (-9223372036854775808 ≤ (p37 + 1) ∧ (p37 + 1) ≤ 9223372036854775807) <|
k38 (r64.2, r64.1, (p37 + 1))) else (rtakeb_J1 r3 p36 l35)) else (rtakeb_J1 r3 p36 l35)
def rtakeb_M (img : List Int) (l : List (Int × Int)) (gw : Int) (gi : Int) (gb : Int) (ba : Int) : Option (Int × Int × List (Int × Int)) :=
 (rmclear_M img l ba gb).bind fun r3 =>
if r3.2 = true then ((rmset_M img l ba gb r3.1 true).bind fun r12 =>
iter (fun k_ s_ => rtakeb_B0 img gw gi gb r3 k_ s_.1 s_.2.1 s_.2.2) FUEL (r12.2, r12.1, 0)) else (some (0, 7, l))
theorem rtakeb_walk {img : List Int} {l : List (Int × Int)} {gw : Int} {gi : Int} {gb : Int} {ia : Int} {ba : Int} {ab ib bb vb : Nat} {r : Int × Int × List (Int × Int)} (B : Nat) (w : World) (hm : rtakeb_M img l gw gi gb ba = some r) : Spec Tryz.prog 106 #[(zp ab)] B w [zb ab 170 [(zp vb), (zi gw), (zi gi), (zi gb), (zp ib), (zp bb)], zb ib 168 [(zp vb), (zi ia), (zi gi)], zb bb 168 [(zp vb), (zi ba), (zi gb)], refA (ptr vb) img l] (fun v H' => v = .tuple #[.int .i64 r.1, .int .i64 r.2.1] ∧ H' = [zb ab 170 [(zp vb), (zi gw), (zi gi), (zi gb), (zp ib), (zp bb)], zb ib 168 [(zp vb), (zi ia), (zi gi)], zb bb 168 [(zp vb), (zi ba), (zi gb)], refA (ptr vb) img r.2.2]) := by
 refine spec_W Tryz.func106 rfl fun l0 hs => ?_
 unfold rtakeb_M at hm
 refine W.sr fun K1 hK1 => ?_
 refine zE 2 (hK1 _ _ ?_)
 refine W.sr fun K2 hK2 => ?_
 refine zR 3 ?_
 refine zL ⟨ab, 5, none⟩ (zp bb) (hs.cellAt 0 rfl rfl) ?_
 obtain ⟨r3, h4, hm⟩ := bind_some hm
 refine zC00 hs (rmclear_walk (hmb := (hs.heapAt 2 rfl)) (hv := (hs.entAt 3 rfl refA_at)) (hm := h4) B _) fun w5 hs7 => ?_
 refine zE 5 (hK2 _ _ ?_)
 refine W.seq fun K8 hK8 => ?_
 refine W.sr fun K9 hK9 => ?_
 refine zE 2 (hK9 _ _ ?_)
 refine W.cond (!r3.2) (by kernel_rfl) (fun h10 => ?_) (fun h10 => ?_)
 rotate_left
 ·
  have h10p : r3.2 = true := (bnot_false h10)
  replace hm := ite_yes hm h10p
  refine W.skip ?_
  refine hK8 _ _ ?_
  refine W.sr fun K11 hK11 => ?_
  refine zR 3 ?_
  refine zL ⟨ab, 5, none⟩ (zp bb) (hs7.cellAt 0 rfl rfl) ?_
  refine zR 1 ?_
  obtain ⟨r12, h13, hm⟩ := bind_some hm
  have hs14 := St.f3 hs7
  have hs15 := St.f3 hs14
  refine zC22 hs15 (rmset_walk (mb := bb) (vb := vb) (many := gb) (at_ := ba) (hm := h13) B _) fun w16 hs18 => ?_
  refine zE 1 (hK11 _ _ ?_)
  refine W.seq_join (fun s_ w_ => ∃ (p19 : Int) (l20 : List (Int × Int)), (∃ us, s_ = slots 49 [(4, (zi r3.1)), (6, (zi p19))] us) ∧ St B w l0 w_ [refA (ptr vb) img l20, zb bb 168 [(zp vb), (zi ba), (zi gb)], zb ib 168 [(zp vb), (zi ia), (zi gi)], zb ab 170 [(zp vb), (zi gw), (zi gi), (zi gb), (zp ib), (zp bb)]] ∧ rtakeb_J1 r3 p19 l20 = some r) ?_ ?_
  ·
   rintro _ w21 ⟨p19, l20, ⟨us, rfl⟩, hs22, hm⟩
   unfold rtakeb_J1 at hm
   refine W.seq fun K23 hK23 => ?_
   refine W.sr fun K24 hK24 => ?_
   refine zE 2 (hK24 _ _ ?_)
   refine W.cond (!decide (p19 = 0)) (by kernel_rfl) (fun h25 => ?_) (fun h25 => ?_)
   rotate_left
   ·
    have h25p : p19 = 0 := of_decide_eq_true (bnot_false h25)
    replace hm := ite_yes hm h25p
    refine W.skip ?_
    refine hK23 _ _ ?_
    refine W.sr fun K26 hK26 => ?_
    refine zE 3 (hK26 _ _ ?_)
    refine W.ret ?_
    obtain rfl := some_inj hm
    have hs27 := St.f1 hs22
    have hs28 := St.f2 hs27
    have hs29 := St.f3 hs28
    refine ret_of (.tuple #[(zi r3.1), (zi 0)]) (by kernel_rfl) ⟨_, ⟨rfl, rfl⟩, hs29⟩
   have h25p : ¬ (p19 = 0) := of_decide_eq_false (bnot_true h25)
   replace hm := ite_no hm h25p
   refine W.sr fun K30 hK30 => ?_
   refine zE 3 (hK30 _ _ ?_)
   refine W.ret (ret_seq ?_)
   obtain rfl := some_inj hm
   have hs31 := St.f1 hs22
   have hs32 := St.f2 hs31
   have hs33 := St.f3 hs32
   refine ret_of (.tuple #[(zi 0), (zi p19)]) (by kernel_rfl) ⟨_, ⟨rfl, rfl⟩, hs33⟩
  refine W.sr fun K34 hK34 => ?_
  refine zE 1 (hK34 _ _ ?_)
  refine W.block ?_
  have hs42 := St.f2 hs18
  have hs43 := St.f1 hs42
  have hs44 := St.f3 hs43
  have hs45 := St.f3 hs44
  refine W.loop_iter (G := (List (Int × Int)) × Int × Int) (σ := (List (Int × Int)) × Int × Int) (fun | (l35, p36, p37) => (l35, p36, p37)) (fun | (l35, p36, p37), s_, w_ => (∃ us, s_ = slots 49 [(0, (zp ab)), (4, (zi r3.1)), (6, (zi p36)), (7, (zi p37))] us) ∧ St B w l0 w_ [refA (ptr vb) img l35, zb ib 168 [(zp vb), (zi ia), (zi gi)], zb bb 168 [(zp vb), (zi ba), (zi gb)], zb ab 170 [(zp vb), (zi gw), (zi gi), (zi gb), (zp ib), (zp bb)]]) (r12.2, r12.1, 0) ⟨slots_intro _ (by kernel_rfl), hs45⟩ hm ?_
  rintro k38 ih39 ⟨l35, p36, p37⟩ _ w40 ⟨⟨us, rfl⟩, hs41⟩ hm
  replace hm : rtakeb_B0 img gw gi gb r3 k38 l35 p36 p37 = some r := hm
  unfold rtakeb_B0 at hm
  refine W.seq fun K46 hK46 => ?_
  refine W.sr fun K47 hK47 => ?_
  refine zR 3 ?_
  rcases Bool.eq_false_or_eq_true (decide (p37 < 8)) with h48 | h48
  ·
   obtain ⟨h48p, hm⟩ := iY hm h48
   refine zS 26 h48 ?_
   refine zS 25 h48 ?_
   refine zE 3 (hK47 _ _ ?_)
   refine W.cond (decide (p36 = 0)) (by kernel_rfl) (fun h49 => ?_) (fun h49 => ?_)
   ·
    obtain ⟨h49p, hm⟩ := iY hm h49
    refine W.skip ?_
    refine hK46 _ _ ?_
    refine W.seq fun K50 hK50 => ?_
    refine W.block ?_
    have hs51 := hs41.drew
    have hs52 := St.f3 hs51
    have hs53 := St.f3 hs52
    have hs54 := St.f3 hs53
    have hs55 := St.tk3 hs54
    refine W.regionD [(0, 0), (1, 1), (2, 2), (4, 4), (0, 0), (16, 16), (32, 32), (64, 64), (0, 0), (384, 384), (0, 0), (1536, 1536), (2568, 2056), (8191, 4096)] (fun w_ => St B w l0 w_ [zb ib 168 [(zp vb), (zi ia), (zi gi)], zb bb 168 [(zp vb), (zi ba), (zi gb)], zb ab 170 [(zp vb), (zi gw), (zi gi), (zi gb), (zp ib), (zp bb)]]) (by kernel_rfl) hs55 ?_
    refine zA (zp ab) 0 hs55 ?_
    refine zA (zp ab) 1 hs55 ?_
    refine zA (zp ab) 2 hs55 ?_
    refine zB 3 ⟨ab, 0, none⟩ (zp vb) (fun _ hS_ => (hS_.cellAt 2 rfl rfl)) hs55 ?_
    refine zA (zp ab) 4 hs55 ?_
    refine zA (zp ab) 5 hs55 ?_
    refine zA (.pointer (some ⟨ab, 1, none⟩)) 6 hs55 ?_
    refine any_R 7 (by kernel_rfl) (fun _ hS_ => runs_loadAgg (ad := ⟨ab, 1, none⟩) (cs := [(zi gw), (zi gi), (zi gb)]) (by kernel_rfl) (cells_sub (hS_.heapAt 2 rfl) rfl)) hs55 ?_
    refine zA (zi r3.1) 8 hs55 ?_
    refine zA (zi p37) 10 hs55 ?_
    refine any_step 9 (by kernel_rfl) (by kernel_rfl) ?_
    refine zC00 hs51 (rblockat_spec (gw := gw) (gi := gi) (gb := gb) (n_ := r3.1) B _) fun w56 hs58 => ?_
    have hs59 := St.f3 hs58
    have hs60 := St.f3 hs59
    have hs61 := St.f3 hs60
    have hs62 := St.tk3 hs61
    refine ops_done (by kernel_rfl) ⟨hs62, ?_⟩
    obtain ⟨h63, hm⟩ := need_some hm
    refine any_val (v := .int .i64 (IntKind.i64.wrap ((placeOf 9 gw gi gb r3.1) + p37))) (v' := .int .i64 ((placeOf 9 gw gi gb r3.1) + p37)) 11 (by kernel_rfl) (fun _ => by kernel_rfl) (congrArg (Value.int .i64) (wrap_i64 h63.1 h63.2)) hs62 ?_
    refine any_step 12 (by kernel_rfl) (by kernel_rfl) ?_
    obtain ⟨r64, h65, hm⟩ := bind_some hm
    replace h65 := some_inj h65
    refine ops_call1 hs58 (by kernel_rfl) (rput_spec (p := (zp vb)) (img := img) (l := l35) (at_ := ((placeOf 9 gw gi gb r3.1) + p37)) (x_ := 0) B _) ?_
    rintro _ _ w68 ⟨hv66, hH67⟩ hs69
    rw [h65] at hv66
    try rw [h65] at hH67
    subst hv66 hH67
    have hs70 := St.ap1 hs69
    have hs71 := St.f3 hs70
    have hs72 := St.f3 hs71
    have hs73 := St.f3 hs72
    have hs74 := St.tk3 hs73
    refine ops_done (by kernel_rfl) ⟨hs74, ?_⟩
    refine zA (zi r64.1) 13 hs74 ?_
    refine any_done (by kernel_rfl) ?_
    refine normal_block ?_
    refine hK50 _ _ ?_
    refine W.region ?_
    refine zR 1 ?_
    obtain ⟨h75, hm⟩ := need_some hm
    refine zI _ (wrap_i64 h75.1 h75.2) ?_
    refine zE 1 ?_
    refine loopAt_next ?_
    exact ih39 (r64.2, r64.1, (p37 + 1)) _ _ ⟨slots_intro _ (by kernel_rfl), hs70⟩ hm
   obtain ⟨h49p, hm⟩ := iN hm h49
   refine W.exit (exit_seq (exit_seq (exit_here ?_)))
   have hs76 := St.f3 hs41
   have hs77 := St.f2 hs76
   have hs78 := St.f3 hs77
   have hs79 := St.f3 hs78
   exact ⟨p36, l35, slots_intro _ (by kernel_rfl), hs79, hm⟩
  obtain ⟨h48p, hm⟩ := iN hm h48
  refine zS 26 h48 ?_
  refine zS 25 h48 ?_
  refine zE 3 (hK47 _ _ ?_)
  refine W.cond_false false (by kernel_rfl) rfl ?_
  refine W.exit (exit_seq (exit_seq (exit_here ?_)))
  have hs80 := St.f3 hs41
  have hs81 := St.f2 hs80
  have hs82 := St.f3 hs81
  have hs83 := St.f3 hs82
  exact ⟨p36, l35, slots_intro _ (by kernel_rfl), hs83, hm⟩
 have h10p : ¬ (r3.2 = true) := ne_true_of_eq_false (bnot_true h10)
 replace hm := ite_no hm h10p
 refine W.sr fun K84 hK84 => ?_
 refine zE 2 (hK84 _ _ ?_)
 refine W.ret (ret_seq ?_)
 obtain rfl := some_inj hm
 refine ret_of (.tuple #[(zi 0), (zi 7)]) (by kernel_rfl) ⟨_, ⟨rfl, rfl⟩, hs7⟩
def rfree_M (img : List Int) (l : List (Int × Int)) (gi : Int) (gb : Int) (ia : Int) (ba : Int) : Option (Int × Int) :=
 (rmcount_M img l ia gi).bind fun r4 =>
need (-9223372036854775808 ≤ (gi - r4) ∧ (gi - r4) ≤ 9223372036854775807) <|
(rmcount_M img l ba gb).bind fun r10 =>
need (-9223372036854775808 ≤ (gb - r10) ∧ (gb - r10) ≤ 9223372036854775807) <|
some ((gi - r4), (gb - r10))
theorem rfree_walk {img : List Int} {l : List (Int × Int)} {gw : Int} {gi : Int} {gb : Int} {ia : Int} {ba : Int} {ab ib bb vb : Nat} {r : Int × Int} (B : Nat) (w : World) (hab : w.heap[ab]? = some (.cells [(zp vb), (zi gw), (zi gi), (zi gb), (zp ib), (zp bb)].toArray 170 (0, 0))) (hib : w.heap[ib]? = some (.cells [(zp vb), (zi ia), (zi gi)].toArray 168 (0, 0))) (hbb : w.heap[bb]? = some (.cells [(zp vb), (zi ba), (zi gb)].toArray 168 (0, 0))) (hv : RefAt (ptr vb) img l w) (hm : rfree_M img l gi gb ia ba = some r) : Spec Tryz.prog 54 #[(zp ab)] B w [] (fun v H' => v = .tuple #[.int .i64 r.1, .int .i64 r.2] ∧ H' = []) := by
 refine spec_Q Tryz.func54 rfl fun hs => ?_
 unfold rfree_M at hm
 refine W.sr fun K1 hK1 => ?_
 refine zE 2 (hK1 _ _ ?_)
 refine W.seq fun K2 hK2 => ?_
 have hs3 := hs.drew
 refine W.regionD [(0, 0), (1, 1), (2, 2), (4, 4), (8, 8), (0, 0), (32, 32), (64, 64), (128, 128), (256, 256), (528, 528), (0, 0), (2048, 2048), (4096, 4096), (8192, 8192), (16384, 16384), (0, 0), (65536, 65536), (131072, 131072), (262144, 262144), (524800, 524288), (1081344, 1081344), (1050623, 1024), (8388607, 2097152)] (fun w_ => St B w [] w_ []) (by kernel_rfl) hs3 ?_
 refine zA (zp ab) 0 hs3 ?_
 refine zA (zp ab) 1 hs3 ?_
 refine zA (.pointer (some ⟨ab, 1, none⟩)) 2 hs3 ?_
 refine zA (.pointer (some ⟨ab, 2, none⟩)) 3 hs3 ?_
 refine zB 4 ⟨ab, 2, none⟩ (zi gi) (fun _ hS_ => (cell_of_blk (hS_.old hab) rfl)) hs3 ?_
 refine zA (zp ab) 5 hs3 ?_
 refine zA (zp ab) 6 hs3 ?_
 refine zA (.pointer (some ⟨ab, 4, none⟩)) 7 hs3 ?_
 refine zB 8 ⟨ab, 4, none⟩ (zp ib) (fun _ hS_ => (cell_of_blk (hS_.old hab) rfl)) hs3 ?_
 refine zA (zp ab) 11 hs3 ?_
 refine zA (zp ab) 12 hs3 ?_
 refine zA (.pointer (some ⟨ab, 1, none⟩)) 13 hs3 ?_
 refine zA (.pointer (some ⟨ab, 3, none⟩)) 14 hs3 ?_
 refine zB 15 ⟨ab, 3, none⟩ (zi gb) (fun _ hS_ => (cell_of_blk (hS_.old hab) rfl)) hs3 ?_
 refine zA (zp ab) 16 hs3 ?_
 refine zA (zp ab) 17 hs3 ?_
 refine zA (.pointer (some ⟨ab, 5, none⟩)) 18 hs3 ?_
 refine zB 19 ⟨ab, 5, none⟩ (zp bb) (fun _ hS_ => (cell_of_blk (hS_.old hab) rfl)) hs3 ?_
 refine any_step 9 (by kernel_rfl) (by kernel_rfl) ?_
 obtain ⟨r4, h5, hm⟩ := bind_some hm
 refine zC00 hs3 (rmcount_walk (hmb := (hs3.old hib)) (hv := (refAt_old hs3 hv)) (hm := h5) B _) fun w6 hs8 => ?_
 refine ops_done (by kernel_rfl) ⟨hs8, ?_⟩
 obtain ⟨h9, hm⟩ := need_some hm
 refine any_val (v := .int .i64 (IntKind.i64.wrap (gi - r4))) (v' := .int .i64 (gi - r4)) 10 (by kernel_rfl) (fun _ => by kernel_rfl) (congrArg (Value.int .i64) (wrap_i64 h9.1 h9.2)) hs8 ?_
 refine any_step 20 (by kernel_rfl) (by kernel_rfl) ?_
 obtain ⟨r10, h11, hm⟩ := bind_some hm
 refine zC00 hs8 (rmcount_walk (hmb := (hs8.old hbb)) (hv := (refAt_old hs8 hv)) (hm := h11) B _) fun w12 hs14 => ?_
 refine ops_done (by kernel_rfl) ⟨hs14, ?_⟩
 obtain ⟨h15, hm⟩ := need_some hm
 refine any_val (v := .int .i64 (IntKind.i64.wrap (gb - r10))) (v' := .int .i64 (gb - r10)) 21 (by kernel_rfl) (fun _ => by kernel_rfl) (congrArg (Value.int .i64) (wrap_i64 h15.1 h15.2)) hs14 ?_
 refine zA (zi (gi - r4)) 22 hs14 ?_
 refine zA (zi (gb - r10)) 23 hs14 ?_
 refine any_done (by kernel_rfl) ?_
 refine hK2 _ _ ?_
 refine W.ret ?_
 obtain rfl := some_inj hm
 refine ret_of (.tuple #[(zi (gi - r4)), (zi (gb - r10))]) (by kernel_rfl) ⟨_, ⟨rfl, rfl⟩, hs14⟩
end Go.Proofs.YtmmclabkkigiaaaGreat

namespace Go.Proofs.YtmmclabkkigiaaaGreat
open Go Go.RowKit
def U64 (v : Int) : Prop := 0 ≤ v ∧ v < 18446744073709551616
theorem u64_zero : U64 0 := by unfold U64; omega
def VR (img : List Int) (l : List (Int × Int)) : Prop := ∀ k, U64 (vget img l k)
theorem VR.nil {img : List Int} (h : ∀ x ∈ img, U64 x) : VR img [] := by
  intro k
  unfold vget
  split
  · simp only [show vlook [] k = none from rfl, Option.getD_none]
    rw [List.getD_eq_getElem?_getD]
    rcases Nat.lt_or_ge k.toNat img.length with hk | hk
    · rw [List.getElem?_eq_getElem hk]; exact h _ (List.getElem_mem hk)
    · rw [List.getElem?_eq_none hk]; exact u64_zero
  · exact u64_zero
theorem VR.put {img : List Int} {l : List (Int × Int)} {a x : Int} (h : VR img l) (ha : 0 ≤ a ∧ a < img.length) (hx : U64 x) : VR img (vset l a x) := by
  intro k
  rw [vget_vset ha]
  split
  · exact hx
  · exact h k
theorem vget_out {img : List Int} {l : List (Int × Int)} {k : Int} (h : ¬ (0 ≤ k ∧ k < img.length)) : vget img l k = 0 := by
  unfold vget; rw [if_neg h]
theorem vget_flat {img : List Int} {l : List (Int × Int)} (hok : VOk img l) (k : Int) : vget (vflat img l) [] k = vget img l k := by
  have hl := vflat_length img l
  by_cases h : 0 ≤ k ∧ k < img.length
  · obtain ⟨n, rfl⟩ := Int.eq_ofNat_of_zero_le h.1
    rw [vget_nil (by omega), vflat_get hok (by omega)]
  · rw [vget_out h, vget_out (by rw [hl]; exact h)]
theorem fmtW_u64 {gw gi gb : Int} : ∀ x ∈ fmtW gw gi gb, U64 x := by
  intro x hx
  unfold fmtW at hx
  split at hx
  · rename_i hm
    have hm_ := may_out hm
    unfold U64
    rcases List.mem_or_eq_of_mem_set hx with hx | rfl
    · rcases List.mem_or_eq_of_mem_set hx with hx | rfl
      · rcases List.mem_or_eq_of_mem_set hx with hx | rfl
        · rcases List.mem_or_eq_of_mem_set hx with hx | rfl
          · rcases List.mem_or_eq_of_mem_set hx with hx | rfl
            · rcases List.mem_or_eq_of_mem_set hx with hx | rfl
              · rcases List.mem_or_eq_of_mem_set hx with hx | rfl
                · rcases List.mem_or_eq_of_mem_set hx with hx | rfl
                  · have := List.eq_of_mem_replicate hx
                    omega
                  · omega
                · omega
              · omega
            · omega
          · omega
        · omega
      · omega
    · omega
  · simp at hx
end Go.Proofs.YtmmclabkkigiaaaGreat

namespace Go.Proofs.YtmmclabkkigiaaaGreat
open Go.ChangeShapes Go.WideShapes Go.ChangeAt Go.RowKit Go.Deep
theorem law_own : ownKnob Tryz.prog.godebug = none := by kernel_rfl
theorem law_laid : laidOutB Tryz.prog = true := by kernel_rfl
theorem law_calls {P : Program} {f : FuncId} {args : Array Value} {w : World} (h : Spec P f args w.heap.size w [] (fun v H' => v = .bool true ∧ H' = [])) :
    Calls P f args w fun e w' => e = .returned (.bool true) ∧ Below w.heap.size w w' := by
  refine (h [] (Nat.le_refl _) (fun _ hb => (List.not_mem_nil hb).elim)).mono ?_
  rintro e w' ⟨v, rfl, H', l', ⟨rfl, rfl⟩, hs, hu⟩
  exact ⟨rfl, hu.os, hu.tape, hu.output, hu.size, fun k hk => hu.block k hk (by simp)⟩
section
variable {H : Type} {enc : TypeId × Value → H} {P : Program}
theorem law_trods (hl : laidOutB P = true) {W W' : World} (hB : Below W.heap.size W W') : ∀ {ts : List TypeId} {vs : List Value} {ds : List (DataW H)} {ps : List MemPlace},
    (ts.all fun t => P.readableRec t && decide (t < P.types.size)) = true → DataW.TrodAll enc P W 0 (fun _ => true) true ts vs ds ps → (∀ x ∈ ps, x.block < W.heap.size) → DataW.TrodAll enc P W' 0 (fun b => decide (b < W.heap.size)) true ts vs ds ps
  | [], [], [], _, _, h, _ => h
  | t :: ts, v :: vs, d :: ds, ps, hp, h, hlt => by
    obtain ⟨p, q, h1, h2, rfl⟩ := h
    simp only [List.all_cons, Bool.and_eq_true, decide_eq_true_eq] at hp
    exact ⟨p, q, Below.trod hl hp.1.1 hp.1.2 h1 hB (fun x hx => hlt x (List.mem_append_left _ hx)), law_trods hl hB hp.2 h2 (fun x hx => hlt x (List.mem_append_right _ hx)), rfl⟩
theorem law_post {s : ChangeSpec} {f : Func} {tb : TypeId} {W W' : World} {args : Array Value} {ds gs : List (DataW H)} {before : List MemPlace} (hl : laidOutB P = true)
    (hp : (f.params.toList.all fun t => P.readableRec t && decide (t < P.types.size)) = true) (hv : s.vars = []) (hr : f.resultTypes = #[tb]) (hb : P.underlying tb = some .bool)
    (hW : DataW.Whole enc P f.params.toList s.vars false W args.toList ds gs before) (hB : Below W.heap.size W W') (hfn : (s.fn H ds).results = [.lit (.bool true)] ∧ (s.fn H ds).args = ds ∧ (s.fn H ds).vars = []) :
    ∃ v, (Ending.returned (.bool true)) = .returned v ∧ s.post enc P f false true false false W args v W' := by
  have hW' := hW
  obtain ⟨p, q, hA, hV, rfl, _, _⟩ := hW'
  rw [hv] at hV
  obtain ⟨rfl, rfl⟩ := trodVars_none hV
  have hlt : ∀ x ∈ p ++ [], x.block < W.heap.size := fun x hx => hW.lt x hx
  have e : ds ++ [] = ds := List.append_nil ds
  refine ⟨_, rfl, ds, [], p ++ [], [], p, [], hW, ?_, ?_, ?_, hB.frame _, fun h => by cases h⟩
  · rw [e, hfn.1, hr]; exact trodAll_mk1 (shut_bool hb true)
  · rw [e, hfn.2.1]; exact law_trods hl hB hp hA (fun x hx => hlt x (by simpa using hx))
  · rw [e, hfn.2.2, hv]; exact rfl
end
section
variable {α : Type} (K : Kind α) {H : Type} {enc : TypeId × Value → H} {P : Program} {w : World} {base : Nat} {sp : Nat → Bool}
theorem list_of {Q : Nat → α → Prop} : ∀ n : Nat, (∀ i, i < n → ∃ x, Q i x) → ∃ l : List α, l.length = n ∧ ∀ (i : Nat) (x : α), l[i]? = some x → Q i x
  | 0, _ => ⟨[], rfl, fun i x h => by simp at h⟩
  | n + 1, h => by
    obtain ⟨l, hl, hq⟩ := list_of n (fun i hi => h i (by omega))
    obtain ⟨x, hx⟩ := h n (by omega)
    refine ⟨l ++ [x], by simp [hl], fun i y hy => ?_⟩
    by_cases hi : i < n
    · rw [List.getElem?_append_left (by omega)] at hy; exact hq i y hy
    · rw [List.getElem?_append_right (by omega)] at hy
      have h0 : i - l.length = 0 := by
        have := (List.getElem?_eq_some_iff.1 hy).1
        simp at this; omega
      rw [h0] at hy
      have e : i = n := by
        have := (List.getElem?_eq_some_iff.1 hy).1
        omega
      simp only [List.getElem?_cons_zero, Option.some.injEq] at hy
      subst hy e; exact hx
theorem Kind.cells_at {l : List α} {j : Nat} {c : Value} (h : (K.cells l)[j]? = some c) : ∃ (i k : Nat) (x : α), j = i * K.size + k ∧ l[i]? = some x ∧ (K.elem x)[k]? = some c := by
  have hlt := (List.getElem?_eq_some_iff.1 h).1
  rw [K.length] at hlt
  have hi : j / K.size < l.length := Nat.div_lt_of_lt_mul (by rw [Nat.mul_comm]; exact hlt)
  have hm : j % K.size < K.size := Nat.mod_lt _ K.pos
  have e : j = j / K.size * K.size + j % K.size := by rw [Nat.mul_comm]; exact (Nat.div_add_mod j K.size).symm
  rw [e, K.get (l[j / K.size]) hi hm] at h
  refine ⟨_, _, l[j / K.size], e, List.getElem?_eq_getElem hi, ?_⟩
  simpa [List.getD, List.getElem?_eq_getElem hi] using h
theorem open_kind {t : TypeId} {v : Value} {d : DataW H} {ps : List MemPlace} (good : α → Prop) (ht : P.underlying t = some (.slice K.e)) (hC : P.cellsOf K.e = K.size)
    (hread : ∀ (n : Nat) (cs : List Value) (y : DataW H × List MemPlace), cs.length = K.size → DataW.trod enc P w base sp true n K.e cs = some y → ∃ x, cs = K.elem x ∧ good x)
    {r : Reach} {b0 : Nat} (hval : Value.okWide P w r b0 t v) (h : DataW.Trod enc P w base sp true t v d ps) :
    ∃ (a : Option Addr) (cap : Nat) (l : List α), v = .slice a l.length cap ∧ (a = none → cap = 0) ∧ l.length ≤ maxLen ∧ CellsAt a (K.cells l) w ∧ ∀ x ∈ l, good x := by
  obtain ⟨fuel, h⟩ := h
  have hcells : v.cells.toList = [v] := by
    obtain ⟨a, n, c, rfl⟩ := okWide_slice ht hval
    rfl
  rw [hcells] at h
  rcases open_slice ht h with ⟨h0, _⟩ | ⟨a, len, cap, m, n, D, Pl, hcs, _, hl, hm, hmm, _, hi⟩
  · simp only [List.cons.injEq, and_true] at h0
    exact ⟨none, 0, [], h0, fun _ => rfl, Nat.zero_le _, rfl, by simp⟩
  · simp only [List.cons.injEq, and_true] at hcs
    have hlm : len ≤ m := by rw [hmm]; split <;> omega
    have each : ∀ i, i < len → ∃ x, good x ∧ ∀ (j : Nat) (c : Value), (K.elem x)[j]? = some c → w.cell? (a.add (i * K.size + j)) = some c := by
      intro i hil
      obtain ⟨cs', hc, ht'⟩ := hi i (by omega)
      rw [hC] at hc
      obtain ⟨_, hcl, hat⟩ := World.cells?_some hc
      obtain ⟨x, rfl, hg⟩ := hread n cs' _ hcl (by rw [← hC] at *; exact ht')
      refine ⟨x, hg, fun j c hj => ?_⟩
      have hjl : j < K.size := by rw [← K.elen x]; exact (List.getElem?_eq_some_iff.1 hj).1
      rw [← Go.Deep.add_add, hat j hjl, hj]
    obtain ⟨l, hlen, hl2⟩ := list_of len each
    refine ⟨some a, cap, l, by rw [hlen]; exact hcs, by simp, by omega, ?_, ?_⟩
    · intro j c hj
      obtain ⟨i, k, x, rfl, hk, hx⟩ := K.cells_at hj
      exact (hl2 i x hk).2 k c hx
    · intro x hx
      obtain ⟨i, hi, e⟩ := List.mem_iff_getElem.1 hx
      exact (hl2 i x (by rw [List.getElem?_eq_getElem hi, e])).1
end
end Go.Proofs.YtmmclabkkigiaaaGreat

namespace Go.Proofs.YtmmclabkkigiaaaGreat
open Go Go.RowKit
theorem shl_one {j : Int} (h : 0 ≤ j ∧ j < 64) : shlK .u64 1 j = 2 ^ j.toNat := by
  have e : min j.toNat IntKind.u64.bits = j.toNat := by
    have : IntKind.u64.bits = 64 := rfl
    omega
  unfold shlK
  rw [e, Int.one_mul]
  have h1 : (2 : Nat) ^ j.toNat < 2 ^ 64 := Nat.pow_lt_pow_right (by omega) (by omega)
  have h2 : ((2 ^ j.toNat : Nat) : Int) = 2 ^ j.toNat := by simp
  rw [← h2]
  exact wrap_u64 (Int.natCast_nonneg _) (Int.ofNat_lt.2 h1)
section
variable {mb vb : Nat} {img : List Int} {l : List (Int × Int)} {at_ many i_ : Int}
end
end Go.Proofs.YtmmclabkkigiaaaGreat
namespace Go.Proofs.YtmmclabkkigiaaaGreat
open Go Go.RowKit
end Go.Proofs.YtmmclabkkigiaaaGreat
namespace Go.Proofs.YtmmclabkkigiaaaGreat
open Go Go.RowKit
def bitI (v : Int) (j : Nat) : Bool := v.toNat.testBit j
theorem bitI_out {v : Int} {j : Nat} (h : U64 v) (hj : 64 ≤ j) : bitI v j = false := by
  have hl : v.toNat < 2 ^ 64 := by unfold U64 at h; omega
  exact Nat.testBit_lt_two_pow (Nat.lt_of_lt_of_le hl (Nat.pow_le_pow_right (by omega) hj))
theorem bitI_ext {x y : Int} (hx : U64 x) (hy : U64 y) (h : ∀ j, j < 64 → bitI x j = bitI y j) : x = y := by
  have e : x.toNat = y.toNat := Nat.eq_of_testBit_eq fun j => by
    by_cases hj : j < 64
    · exact h j hj
    · exact (bitI_out hx (by omega)).trans (bitI_out hy (by omega)).symm
  unfold U64 at hx hy
  omega
theorem ofInt_of {x : Int} (h : U64 x) : BitVec.ofInt 64 x = BitVec.ofNat 64 x.toNat := by
  obtain ⟨n, rfl⟩ := Int.eq_ofNat_of_zero_le h.1
  simp
theorem bits_of {op : BinOp} {x y : Int} (hx : U64 x) (hy : U64 y) : bits op .u64 x y = (((match op with
    | .and => BitVec.ofNat 64 x.toNat &&& BitVec.ofNat 64 y.toNat
    | .or => BitVec.ofNat 64 x.toNat ||| BitVec.ofNat 64 y.toNat
    | .xor => BitVec.ofNat 64 x.toNat ^^^ BitVec.ofNat 64 y.toNat
    | _ => BitVec.ofNat 64 x.toNat &&& ~~~(BitVec.ofNat 64 y.toNat)) : BitVec 64).toNat : Int) := by
  unfold bits
  rw [show IntKind.u64.bits = 64 from rfl]
  simp only [ofInt_of hx, ofInt_of hy]
  have h : ∀ b : BitVec 64, IntKind.u64.wrap (b.toNat : Int) = (b.toNat : Int) := fun b => wrap_u64 (Int.natCast_nonneg _) (Int.ofNat_lt.2 b.isLt)
  exact h _
theorem bits_u64 {op : BinOp} {x y : Int} (hx : U64 x) (hy : U64 y) : U64 (bits op .u64 x y) := by
  rw [bits_of hx hy]
  exact ⟨Int.natCast_nonneg _, Int.ofNat_lt.2 (BitVec.isLt _)⟩
theorem bitI_cast (b : BitVec 64) (j : Nat) : bitI (b.toNat : Int) j = b.getLsbD j := by
  unfold bitI
  rw [Int.toNat_natCast]
  exact BitVec.testBit_toNat b
theorem lsb_of {x : Int} {j : Nat} (hx : U64 x) : (BitVec.ofNat 64 x.toNat).getLsbD j = bitI x j := by
  rw [BitVec.getLsbD_ofNat]
  by_cases hj : j < 64
  · simp [hj, bitI]
  · have := bitI_out (j := j) hx (by omega)
    simp [hj, this]
theorem bitI_or {x y : Int} {j : Nat} (hx : U64 x) (hy : U64 y) : bitI (bits .or .u64 x y) j = (bitI x j || bitI y j) := by
  rw [bits_of hx hy, bitI_cast, BitVec.getLsbD_or, lsb_of hx, lsb_of hy]
theorem bitI_xor {x y : Int} {j : Nat} (hx : U64 x) (hy : U64 y) : bitI (bits .xor .u64 x y) j = (bitI x j ^^ bitI y j) := by
  rw [bits_of hx hy, bitI_cast, BitVec.getLsbD_xor, lsb_of hx, lsb_of hy]
theorem bitI_andNot {x y : Int} {j : Nat} (hx : U64 x) (hy : U64 y) : bitI (bits .andNot .u64 x y) j = (bitI x j && !bitI y j) := by
  rw [bits_of hx hy, bitI_cast, BitVec.getLsbD_and, BitVec.getLsbD_not, lsb_of hx, lsb_of hy]
  by_cases hj : j < 64
  · simp [hj]
  · have := bitI_out (j := j) hx (by omega)
    simp [this]
theorem pow_u64 {j : Nat} (h : j < 64) : U64 (2 ^ j) := by
  have h1 : (2 : Nat) ^ j < 2 ^ 64 := Nat.pow_lt_pow_right (by omega) h
  have h2 : ((2 ^ j : Nat) : Int) = 2 ^ j := by simp
  rw [← h2]
  exact ⟨Int.natCast_nonneg _, Int.ofNat_lt.2 h1⟩
theorem bitI_pow {j t : Nat} : bitI (2 ^ j) t = decide (j = t) := by
  have h2 : ((2 ^ j : Nat) : Int) = 2 ^ j := by simp
  unfold bitI
  rw [← h2, Int.toNat_natCast, Nat.testBit_two_pow]
def setb (v : Int) (j : Nat) (b : Bool) : Int := if b = true then bits .or .u64 v (2 ^ j) else bits .andNot .u64 v (2 ^ j)
theorem setb_u64 {v : Int} {j : Nat} {b : Bool} (hv : U64 v) (hj : j < 64) : U64 (setb v j b) := by
  unfold setb
  split <;> exact bits_u64 hv (pow_u64 hj)
theorem bitI_setb {v : Int} {j t : Nat} {b : Bool} (hv : U64 v) (hj : j < 64) : bitI (setb v j b) t = if t = j then b else bitI v t := by
  unfold setb
  cases b
  · rw [if_neg (by decide), bitI_andNot hv (pow_u64 hj), bitI_pow]
    by_cases h : t = j
    · subst h; simp
    · rw [if_neg h]; simp [show ¬ j = t from fun e => h e.symm]
  · rw [if_pos rfl, bitI_or hv (pow_u64 hj), bitI_pow]
    by_cases h : t = j
    · subst h; simp
    · rw [if_neg h]; simp [show ¬ j = t from fun e => h e.symm]
def cnt (f : Nat → Bool) : Nat → Nat
  | 0 => 0
  | n + 1 => cnt f n + (if f n = true then 1 else 0)
theorem cnt_le (f : Nat → Bool) : ∀ n, cnt f n ≤ n
  | 0 => Nat.le_refl _
  | n + 1 => by have := cnt_le f n; unfold cnt; split <;> omega
def lst (f : Nat → Bool) (n : Nat) : Int × Bool := match (List.range n).find? (fun i => !f i) with
  | some i => ((i : Int), true)
  | none => (0, false)
theorem lst_at {f : Nat → Bool} {n i : Nat} (hi : i < n) (h1 : f i = false) (h2 : ∀ j, j < i → f j = true) : lst f n = ((i : Int), true) := by
  have : (List.range n).find? (fun i => !f i) = some i := by
    rw [List.find?_range_eq_some]
    refine ⟨by simp [h1], by simpa using hi, fun j hj => by simp [h2 j hj]⟩
  unfold lst
  rw [this]
theorem lst_full {f : Nat → Bool} {n : Nat} (h : ∀ j, j < n → f j = true) : lst f n = (0, false) := by
  have : (List.range n).find? (fun i => !f i) = none := by
    rw [List.find?_eq_none]
    intro x hx
    simp [h x (by simpa using hx)]
  unfold lst
  rw [this]
theorem lst_cases (f : Nat → Bool) (n : Nat) : (∃ i, i < n ∧ f i = false ∧ (∀ j, j < i → f j = true) ∧ lst f n = ((i : Int), true)) ∨ ((∀ j, j < n → f j = true) ∧ lst f n = (0, false)) := by
  by_cases h : ∃ i, i < n ∧ f i = false
  · obtain ⟨i, hi, hf⟩ := h
    have key : ∀ m, m ≤ n → (∀ j, j < m → f j = true) ∨ ∃ i, i < m ∧ f i = false ∧ ∀ j, j < i → f j = true := by
      intro m
      induction m with
      | zero => intro _; exact .inl fun j hj => by omega
      | succ m ih =>
        intro hm
        rcases ih (by omega) with h1 | ⟨i, h1, h2, h3⟩
        · by_cases h4 : f m = true
          · exact .inl fun j hj => (Nat.lt_succ_iff_lt_or_eq.1 hj).elim (h1 j) (fun e => e ▸ h4)
          · exact .inr ⟨m, by omega, by simpa using h4, h1⟩
        · exact .inr ⟨i, by omega, h2, h3⟩
    rcases key n (Nat.le_refl _) with h1 | ⟨i, h1, h2, h3⟩
    · rw [h1 i hi] at hf; cases hf
    · exact .inl ⟨i, h1, h2, h3, lst_at h1 h2 h3⟩
  · have h' : ∀ j, j < n → f j = true := fun j hj => by
      by_cases h1 : f j = true
      · exact h1
      · exact absurd ⟨j, hj, by simpa using h1⟩ h
    exact .inr ⟨h', lst_full h'⟩
def mbits (img : List Int) (l : List (Int × Int)) (at_ : Int) (i : Nat) : Bool := bitI (vget img l (at_ + (i / 64 : Nat))) (i % 64)
def msetF (img : List Int) (l : List (Int × Int)) (at_ many i_ : Int) (is_ : Bool) : Int × List (Int × Int) :=
  if 0 ≤ i_ ∧ i_ < many then vput img l (at_ + i_ / 64) (setb (vget img l (at_ + i_ / 64)) (i_ % 64).toNat is_) else (8, l)
end Go.Proofs.YtmmclabkkigiaaaGreat
namespace Go.Proofs.YtmmclabkkigiaaaGreat
open Go Go.RowKit
section
variable {img : List Int} {l : List (Int × Int)} {at_ many : Int}
end
end Go.Proofs.YtmmclabkkigiaaaGreat
namespace Go.Proofs.YtmmclabkkigiaaaGreat
open Go Go.RowKit
def gb (img : List Int) (l : List (Int × Int)) (i : Nat) : Bool := bitI (vget img l ((i / 64 : Nat) : Int)) (i % 64)
theorem shr_tmod {v : Int} {j : Int} (hv : U64 v) (hj : 0 ≤ j ∧ j < 64) : (shrK .u64 v j).tmod 2 = if bitI v j.toNat = true then 1 else 0 := by
  obtain ⟨n, rfl⟩ := Int.eq_ofNat_of_zero_le hv.1
  have e : shrK .u64 (n : Int) j = ((n / 2 ^ j.toNat : Nat) : Int) := by
    unfold shrK
    have e : min j.toNat IntKind.u64.bits = j.toNat := by
      have : IntKind.u64.bits = 64 := rfl
      omega
    rw [e, Int.fdiv_eq_ediv_of_nonneg _ (Int.le_of_lt (Int.pow_pos (by omega)))]
    simp
  rw [e, Int.tmod_eq_emod_of_nonneg (Int.natCast_nonneg _)]
  unfold bitI
  rw [Int.toNat_natCast, Nat.testBit_eq_decide_div_mod_eq]
  by_cases h : n / 2 ^ j.toNat % 2 = 1
  · rw [if_pos (by simpa using h)]; omega
  · rw [if_neg (by simpa using h)]; omega
end Go.Proofs.YtmmclabkkigiaaaGreat
namespace Go.Proofs.YtmmclabkkigiaaaGreat
open Go Go.RowKit
section
variable {img : List Int} {l : List (Int × Int)} {at_ many : Int}
def VI (img : List Int) (l : List (Int × Int)) : Prop := VR img l ∧ VOk img l
theorem VI.nil (h : ∀ x ∈ img, U64 x) (hs : img.length ≤ 17592186044415) : VI img [] := ⟨VR.nil h, VOk.nil hs⟩
theorem VI.vput {a x : Int} (h : VI img l) (hx : U64 x) : VI img (vput img l a x).2 := by
  unfold Go.Proofs.YtmmclabkkigiaaaGreat.vput
  split
  · rename_i ha
    cases hl : vlook l a with
    | some y => exact ⟨h.1.put ha hx, h.2.put ha (.inl (by rw [hl]; rfl))⟩
    | none =>
      simp only
      split
      · exact h
      · exact ⟨h.1.put ha hx, h.2.put ha (.inr (by omega))⟩
  · exact h
theorem VI.mset {i_ : Int} {is_ : Bool} (h : VI img l) : VI img (msetF img l at_ many i_ is_).2 := by
  unfold msetF
  split
  · exact h.vput (setb_u64 (h.1 _) (by omega))
  · exact h
def clearF (img : List Int) : List (Int × Int) → List Int → Int × List (Int × Int)
  | l, [] => (0, l)
  | l, n :: ns => if (vput img l n 0).1 = 0 then clearF img (vput img l n 0).2 ns else vput img l n 0
theorem VI.clear : ∀ {ns : List Int} {l : List (Int × Int)}, VI img l → VI img (clearF img l ns).2
  | [], _, h => h
  | n :: ns, l, h => by
    unfold clearF
    split
    · exact VI.clear (h.vput u64_zero)
    · exact h.vput u64_zero
def ownL (p : Int) : List Int := [p + 0, p + 1, p + 2, p + 3, p + 4, p + 5, p + 6, p + 7]
def takeBF (img : List Int) (l : List (Int × Int)) (gw gi gb at_ : Int) : Int × Int × List (Int × Int) :=
  if (lst (mbits img l at_) gb.toNat).2 = true then
    if (msetF img l at_ gb (lst (mbits img l at_) gb.toNat).1 true).1 = 0 then
      if (clearF img (msetF img l at_ gb (lst (mbits img l at_) gb.toNat).1 true).2 (ownL (placeOf 9 gw gi gb (lst (mbits img l at_) gb.toNat).1))).1 = 0 then
        ((lst (mbits img l at_) gb.toNat).1, 0, (clearF img (msetF img l at_ gb (lst (mbits img l at_) gb.toNat).1 true).2 (ownL (placeOf 9 gw gi gb (lst (mbits img l at_) gb.toNat).1))).2)
      else (0, clearF img (msetF img l at_ gb (lst (mbits img l at_) gb.toNat).1 true).2 (ownL (placeOf 9 gw gi gb (lst (mbits img l at_) gb.toNat).1)))
    else (0, (msetF img l at_ gb (lst (mbits img l at_) gb.toNat).1 true).1, (msetF img l at_ gb (lst (mbits img l at_) gb.toNat).1 true).2)
  else (0, 7, l)
theorem VI.takeB {gw gi gb : Int} (h : VI img l) : VI img (takeBF img l gw gi gb at_).2.2 := by
  unfold takeBF
  split
  · split
    · split <;> exact VI.clear h.mset
    · exact h.mset
  · exact h
theorem place9 (gw gi gb n : Int) : -1 ≤ placeOf 9 gw gi gb n ∧ placeOf 9 gw gi gb n ≤ 7000 := by
  unfold placeOf
  split
  · rename_i h
    have h_ := may_out h
    simp only
    split <;> omega
  · omega
def freeF (img : List Int) (l : List (Int × Int)) (gi gb ia ba : Int) : Int × Int := (gi - (cnt (mbits img l ia) gi.toNat : Nat), gb - (cnt (mbits img l ba) gb.toNat : Nat))
end
end Go.Proofs.YtmmclabkkigiaaaGreat
namespace Go.Proofs.YtmmclabkkigiaaaGreat
open Go Go.RowKit
section
variable {img : List Int} {l : List (Int × Int)} {at_ many : Int}
theorem rmget_ok {i_ : Int} (hv : VR img l) (ha : 0 ≤ at_ ∧ at_ ≤ 1000000000000) (hm : many ≤ 1000000000000) :
    rmget_M img l at_ many i_ = some (decide (0 ≤ i_ ∧ i_ < many) && mbits img l at_ i_.toNat) := by
  unfold rmget_M
  by_cases h : 0 ≤ i_
  · rw [if_pos h]
    by_cases h2 : i_ < many
    · rw [if_pos h2, Int.tdiv_eq_ediv_of_nonneg h, Int.tmod_eq_emod_of_nonneg h]
      refine need_of (by omega) (need_of (by omega) (need_of (by omega) (need_of (by omega) ?_)))
      rw [shr_tmod (hv _) (by omega), show decide (0 ≤ i_ ∧ i_ < many) = true from decide_eq_true ⟨h, h2⟩, Bool.true_and]
      unfold mbits
      rw [show at_ + ((i_.toNat / 64 : Nat) : Int) = at_ + i_ / 64 by omega, show i_.toNat % 64 = (i_ % 64).toNat by omega]
      cases bitI (vget img l (at_ + i_ / 64)) (i_ % 64).toNat <;> rfl
    · rw [if_neg h2, decide_eq_false (fun q => h2 q.2), Bool.false_and]
  · rw [if_neg h, decide_eq_false (fun q => h q.1), Bool.false_and]
theorem setb_same {v : Int} {j : Nat} (hv : U64 v) (hj : j < 64) : setb v j (bitI v j) = v := by
  refine bitI_ext (setb_u64 hv hj) hv fun t ht => ?_
  rw [bitI_setb hv hj]
  split
  · rename_i e; rw [e]
  · rfl
theorem setb_flip {v : Int} {j : Nat} {b : Bool} (hv : U64 v) (hj : j < 64) (h : ¬ (b = true ↔ bitI v j = true)) : bits .xor .u64 v (2 ^ j) = setb v j b := by
  refine bitI_ext (bits_u64 hv (pow_u64 hj)) (setb_u64 hv hj) fun t ht => ?_
  rw [bitI_setb hv hj, bitI_xor hv (pow_u64 hj), bitI_pow]
  by_cases e : t = j
  · subst e
    rw [if_pos rfl]
    cases b <;> cases hb : bitI v t <;> simp_all
  · rw [if_neg e]; simp [show ¬ j = t from fun q => e q.symm]
theorem rmset_ok {i_ : Int} {is_ : Bool} (hv : VR img l) (ha : 0 ≤ at_ ∧ at_ ≤ 1000000000000) (hm : many ≤ 1000000000000) :
    rmset_M img l at_ many i_ is_ = some (msetF img l at_ many i_ is_) := by
  unfold rmset_M msetF
  by_cases h : 0 ≤ i_
  · rw [if_neg (by omega)]
    by_cases h2 : i_ < many
    · rw [if_neg (by omega), if_pos ⟨h, h2⟩, Int.tdiv_eq_ediv_of_nonneg h, Int.tmod_eq_emod_of_nonneg h]
      refine need_of (by omega) (need_of (by omega) (need_of (by omega) (need_of (by omega) (bind_of rfl ?_))))
      refine bind_of (rmget_ok hv ha hm) ?_
      rw [decide_eq_true ⟨h, h2⟩, Bool.true_and, shl_one (by omega)]
      have e : mbits img l at_ i_.toNat = bitI (vget img l (at_ + i_ / 64)) (i_ % 64).toNat := by
        unfold mbits
        rw [show at_ + ((i_.toNat / 64 : Nat) : Int) = at_ + i_ / 64 by omega, show i_.toNat % 64 = (i_ % 64).toNat by omega]
      rw [e]
      have j1 : ∀ x, rmset_J1 img l at_ i_ x = some (vput img l (at_ + i_ / 64) x) := by
        intro x
        unfold rmset_J1
        rw [Int.tdiv_eq_ediv_of_nonneg h]
        exact need_of (by omega) (need_of (by omega) (bind_of rfl rfl))
      by_cases h3 : is_ = true ↔ bitI (vget img l (at_ + i_ / 64)) (i_ % 64).toNat = true
      · rw [if_pos h3, j1]
        have e2 : is_ = bitI (vget img l (at_ + i_ / 64)) (i_ % 64).toNat := Bool.eq_iff_iff.2 h3
        rw [e2, setb_same (hv _) (by omega)]
      · rw [if_neg h3]
        refine bind_of rfl ?_
        rw [j1, setb_flip (hv _) (by omega) h3]
    · rw [if_pos (by omega), if_neg (fun q => h2 q.2)]
  · rw [if_pos (by omega), if_neg (fun q => h q.1)]
theorem rmclear_ok (hv : VR img l) (ha : 0 ≤ at_ ∧ at_ ≤ 1000000000000) (hm : 0 ≤ many ∧ many ≤ 1000000000000) :
    rmclear_M img l at_ many = some (lst (mbits img l at_) many.toNat) := by
  unfold rmclear_M
  refine iter_run (fun s => 0 ≤ s ∧ s ≤ many ∧ ∀ j, j < s.toNat → mbits img l at_ j = true) (fun s => (many - s).toNat) ?_ _ _ ⟨by omega, by omega, fun j hj => absurd hj (by simp)⟩ (fuel_lt (by omega))
  rintro k s ⟨h1, h2, h3⟩ ih
  unfold rmclear_B0
  by_cases h : s < many
  · rw [if_pos h]
    refine bind_of (rmget_ok hv ha hm.2) ?_
    rw [decide_eq_true ⟨h1, h⟩, Bool.true_and]
    by_cases hb : mbits img l at_ s.toNat = true
    · rw [if_pos hb]
      refine need_of (by omega) (ih _ ⟨by omega, by omega, fun j hj => ?_⟩ (by omega))
      by_cases e : j = s.toNat
      · rw [e]; exact hb
      · exact h3 j (by omega)
    · rw [if_neg hb, lst_at (i := s.toNat) (by omega) (by simpa using hb) h3]
      congr 2
      omega
  · rw [if_neg h, lst_full fun j hj => h3 j (by omega)]
theorem rmcount_ok (hv : VR img l) (ha : 0 ≤ at_ ∧ at_ ≤ 1000000000000) (hm : 0 ≤ many ∧ many ≤ 1000000000000) :
    rmcount_M img l at_ many = some ((cnt (mbits img l at_) many.toNat : Nat) : Int) := by
  unfold rmcount_M
  refine iter_run (fun s => 0 ≤ s.2 ∧ s.2 ≤ many ∧ s.1 = ((cnt (mbits img l at_) s.2.toNat : Nat) : Int)) (fun s => (many - s.2).toNat) ?_ _ _ ⟨by simp, hm.1, rfl⟩ (fuel_lt (by simp only; omega))
  rintro k ⟨c, s⟩ ⟨h1, h2, h3⟩ ih
  simp only at h1 h2 h3 ih
  unfold rmcount_B0
  simp only
  have hle := cnt_le (mbits img l at_) s.toNat
  by_cases h : s < many
  · rw [if_pos h]
    refine bind_of (rmget_ok hv ha hm.2) ?_
    rw [decide_eq_true ⟨h1, h⟩, Bool.true_and]
    have e : cnt (mbits img l at_) (s + 1).toNat = cnt (mbits img l at_) s.toNat + (if mbits img l at_ s.toNat = true then 1 else 0) := by
      rw [show (s + 1).toNat = s.toNat + 1 by omega]; rfl
    by_cases hb : mbits img l at_ s.toNat = true
    · rw [if_pos hb] at e ⊢
      exact need_of (by omega) (need_of (by omega) (ih _ ⟨by simp only; omega, by simp only; omega, by simp only; omega⟩ (by simp only; omega)))
    · rw [if_neg hb] at e ⊢
      exact need_of (by omega) (ih _ ⟨by simp only; omega, by simp only; omega, by simp only; omega⟩ (by simp only; omega))
  · rw [if_neg h, h3, show s = many by omega]
theorem rtakeb_ok {gw gi gb : Int} (hv : VR img l) (ha : 0 ≤ at_ ∧ at_ ≤ 1000000000000) (hm : 1 ≤ gb ∧ gb ≤ 1000000000000) : rtakeb_M img l gw gi gb at_ = some (takeBF img l gw gi gb at_) := by
  unfold rtakeb_M
  refine bind_of (rmclear_ok hv ha (by omega)) ?_
  unfold takeBF
  split
  · refine bind_of (rmset_ok hv ha hm.2) ?_
    generalize lst (mbits img l at_) gb.toNat = r
    generalize msetF img l at_ gb r.1 true = q
    have hp := place9 gw gi gb r.1
    generalize hpl : placeOf 9 gw gi gb r.1 = p at hp
    obtain ⟨res, hres⟩ : ∃ res : Int × List (Int × Int), res = if q.1 = 0 then clearF img q.2 (ownL p) else q := ⟨_, rfl⟩
    have hgoal : (if q.1 = 0 then (if (clearF img q.2 (ownL p)).1 = 0 then (r.1, (0 : Int), (clearF img q.2 (ownL p)).2) else (0, clearF img q.2 (ownL p))) else (0, q.1, q.2)) = if res.1 = 0 then (r.1, 0, res.2) else (0, res.1, res.2) := by
      rw [hres]
      by_cases h0 : q.1 = 0
      · rw [if_pos h0, if_pos h0]
      · rw [if_neg h0, if_neg h0, if_neg h0]
    rw [hgoal]
    have hlen : (ownL p).length = 8 := rfl
    refine iter_run (fun s => 0 ≤ s.2.2 ∧ s.2.2 ≤ 8 ∧ res = if s.2.1 = 0 then clearF img s.1 ((ownL p).drop s.2.2.toNat) else (s.2.1, s.1)) (fun s => (8 - s.2.2).toNat) ?_ _ _ ⟨by simp, by simp, by simpa using hres⟩ (fuel_lt (by simp only; omega))
    rintro k ⟨m, e, i⟩ ⟨h1, h2, h3⟩ ih
    simp only at h1 h2 h3 ih
    unfold rtakeb_B0
    simp only
    have j1 : (e = 0 → i = 8) → rtakeb_J1 r e m = some (if res.1 = 0 then (r.1, 0, res.2) else (0, res.1, res.2)) := by
      intro hq
      unfold rtakeb_J1
      by_cases h0 : e = 0
      · have hi := hq h0
        subst hi
        rw [if_pos h0] at h3
        have h4 : res = (0, m) := h3
        rw [if_pos h0, h4]
        rfl
      · rw [if_neg h0] at h3
        rw [if_neg h0, h3, if_neg h0]
    by_cases hi : i < 8
    · rw [if_pos hi]
      by_cases h0 : e = 0
      · rw [if_pos h0] at h3 ⊢
        have hg : (ownL p).drop i.toNat = (p + i) :: (ownL p).drop (i + 1).toNat := by
          have hlt : i.toNat < (ownL p).length := by rw [hlen]; omega
          rw [List.drop_eq_getElem_cons hlt, show (i + 1).toNat = i.toNat + 1 by omega]
          congr 1
          have : i = 0 ∨ i = 1 ∨ i = 2 ∨ i = 3 ∨ i = 4 ∨ i = 5 ∨ i = 6 ∨ i = 7 := by omega
          rcases this with rfl | rfl | rfl | rfl | rfl | rfl | rfl | rfl <;> rfl
        rw [hg, clearF] at h3
        rw [hpl]
        refine need_of (by omega) (bind_of rfl (need_of (by omega) (ih _ ⟨by simp only; omega, by simp only; omega, ?_⟩ (by simp only; omega))))
        simp only
        rw [h3]
      · rw [if_neg h0]
        exact j1 fun q => absurd q h0
    · rw [if_neg hi]
      exact j1 fun _ => by omega
  · rfl
theorem rfree_ok {gi gb ia ba : Int} (hv : VR img l) (h1 : 0 ≤ ia ∧ ia ≤ 1000000000000) (h2 : 0 ≤ ba ∧ ba ≤ 1000000000000) (h3 : 1 ≤ gi ∧ gi ≤ 1000000000000) (h4 : 1 ≤ gb ∧ gb ≤ 1000000000000) : rfree_M img l gi gb ia ba = some (freeF img l gi gb ia ba) := by
  have c1 := cnt_le (mbits img l ia) gi.toNat
  have c2 := cnt_le (mbits img l ba) gb.toNat
  unfold rfree_M
  exact bind_of (rmcount_ok hv h1 (by omega)) (need_of (by omega) (bind_of (rmcount_ok hv h2 (by omega)) (need_of (by omega) rfl)))
end
end Go.Proofs.YtmmclabkkigiaaaGreat

namespace Go.Proofs.YtmmclabkkigiaaaGreat
open Go
theorem decode_big (s : ByteArray) (pos : Nat) (h : pos < s.size) (hb : 128 ≤ (s.get! pos).toNat) :
    128 ≤ (Utf8.decode s pos).1 ∧ (Utf8.decode s pos).1 < 2097152 ∧ 1 ≤ (Utf8.decode s pos).2 ∧ pos + (Utf8.decode s pos).2 ≤ s.size ∧ ∀ j, pos ≤ j → j < pos + (Utf8.decode s pos).2 → 128 ≤ (s.get! j).toNat := by
  have one : ∀ j, pos ≤ j → j < pos + 1 → 128 ≤ (s.get! j).toNat := fun j a b => by
    rw [show j = pos by omega]; exact hb
  have err : 128 ≤ Utf8.runeError ∧ Utf8.runeError < 2097152 := by decide
  unfold Utf8.decode
  simp only [Nat.add_zero]
  rw [if_neg (by omega)]
  split
  · rename_i h1
    simp only [Bool.and_eq_true, beq_iff_eq, decide_eq_true_eq] at h1
    split
    · rename_i h2
      refine ⟨h2, by simp only; omega, by simp only; omega, by simp only; omega, fun j a b => ?_⟩
      simp only at b
      by_cases e : j = pos
      · rw [e]; exact hb
      · rw [show j = pos + 1 by omega]; omega
    · exact ⟨err.1, err.2, by simp only; omega, by simp only; omega, one⟩
  · split
    · rename_i h1
      simp only [Bool.and_eq_true, beq_iff_eq, decide_eq_true_eq] at h1
      split
      · rename_i h2
        simp only [Bool.and_eq_true, decide_eq_true_eq] at h2
        refine ⟨by simp only; omega, by simp only; omega, by simp only; omega, by simp only; omega, fun j a b => ?_⟩
        simp only at b
        by_cases e : j = pos
        · rw [e]; exact hb
        · by_cases e1 : j = pos + 1
          · rw [e1]; omega
          · rw [show j = pos + 2 by omega]; omega
      · exact ⟨err.1, err.2, by simp only; omega, by simp only; omega, one⟩
    · split
      · rename_i h1
        simp only [Bool.and_eq_true, beq_iff_eq, decide_eq_true_eq] at h1
        split
        · rename_i h2
          simp only [Bool.and_eq_true, decide_eq_true_eq] at h2
          refine ⟨by simp only; omega, by simp only; omega, by simp only; omega, by simp only; omega, fun j a b => ?_⟩
          simp only at b
          by_cases e : j = pos
          · rw [e]; exact hb
          · by_cases e1 : j = pos + 1
            · rw [e1]; omega
            · by_cases e2 : j = pos + 2
              · rw [e2]; omega
              · rw [show j = pos + 3 by omega]; omega
        · exact ⟨err.1, err.2, by simp only; omega, by simp only; omega, one⟩
      · exact ⟨err.1, err.2, by simp only; omega, by simp only; omega, one⟩
theorem run_next_at {P : Program} (w : World) (b : Nat) (s : ByteArray) (pos : Nat) (ty : TypeId) (hb : w.heap[b]? = some (.stringIter s pos)) (h : pos < s.size) :
    (Instr.next (.pointer (some ⟨b, 0, none⟩)) true ty).run P w = .ok (.tuple #[.bool true, .int .i64 pos, .int .i32 (Utf8.decode s pos).1]) { w with heap := w.heap.setIfInBounds b (.stringIter s (pos + (Utf8.decode s pos).2)) } := by
  simp only [Instr.next, getObj, setObj, Sem.run_bind, Sem.run, hb, Result.andThen, h, if_true]
  simp [goInt, Sem.run, hb]
theorem run_next_stop {P : Program} (w : World) (b : Nat) (s : ByteArray) (pos : Nat) (ty : TypeId) (hb : w.heap[b]? = some (.stringIter s pos)) (h : ¬ pos < s.size) :
    (Instr.next (.pointer (some ⟨b, 0, none⟩)) true ty).run P w = .ok (.tuple #[.bool false]) w := by
  simp [Instr.next, getObj, Sem.run, hb, h]
end Go.Proofs.YtmmclabkkigiaaaGreat

namespace Go.Proofs.YtmmclabkkigiaaaGreat
open Go.Shelf Go.RowKit Go.Lib
variable {P : Program} {ρ : Ren}
def chars2 : ByteArray := ⟨#[47, 0]⟩
set_option maxHeartbeats 4000000 in
set_option maxRecDepth 1000000 in
theorem irune_invalid (L : Lays.n152 P ρ) (s : ByteArray) (r : Int) (w : World) (h0 : 128 ≤ r) (hv : Lib.validRune r = false) (h3 : r ≠ 65533) :
    Calls P (ρ.f 152) #[.string s, .int .i32 r] w fun e w' => e = .returned (.int .i64 (-1)) ∧ w' = w := by
  have t3 := L.t3; have a3 := L.a3; have z3 := L.z3; have v3 := L.v3
  have t4 := L.t4; have a4 := L.a4; have z4 := L.z4; have v4 := L.v4
  have t5 := L.t5; have a5 := L.a5; have z5 := L.z5; have v5 := L.v5
  have t9 := L.t9; have a9 := L.a9; have z9 := L.z9; have v9 := L.v9
  have t21 := L.t21; have a21 := L.a21; have z21 := L.z21; have v21 := L.v21
  have e119 : ∀ args w, (callFunc (ρ.f 119) args).run P w = .ok (.enter (ρ.f 119) args) w := enters_of L.f119 (by kernel_rfl) rfl
  have hr : (r == 65533) = false := beq_eq_false_iff_ne.2 h3
  have hlt : ¬ r < 128 := by omega
  have hle : 0 ≤ r := by omega
  go_enter L.f152, Body.n152_ntmps ρ
  go_wp2_with (go_at_fn (ρ.f 119); refine (Any.utf8_ValidRune { L with } _ _).mono ?_; rintro e w' ⟨rfl, hw⟩; rw [hw, hv])
  go_ret
  exact ⟨rfl, rfl⟩
set_option maxHeartbeats 8000000 in
set_option maxRecDepth 1000000 in
theorem irune_valid (L : Lays.n152 P ρ) (r : Int) (w : World) (h0 : 128 ≤ r) (hv : Lib.validRune r = true) (h3 : r ≠ 65533) :
    Calls P (ρ.f 152) #[.string chars2, .int .i32 r] w fun e w' => e = .returned (.int .i64 (-1)) ∧ ∃ n, w' = w.drewN n := by
  have t3 := L.t3; have a3 := L.a3; have z3 := L.z3; have v3 := L.v3
  have t4 := L.t4; have a4 := L.a4; have z4 := L.z4; have v4 := L.v4
  have t5 := L.t5; have a5 := L.a5; have z5 := L.z5; have v5 := L.v5
  have t9 := L.t9; have a9 := L.a9; have z9 := L.z9; have v9 := L.v9
  have t21 := L.t21; have a21 := L.a21; have z21 := L.z21; have v21 := L.v21
  have e119 : ∀ args w, (callFunc (ρ.f 119) args).run P w = .ok (.enter (ρ.f 119) args) w := enters_of L.f119 (by kernel_rfl) rfl
  have e137 : ∀ args w, (callFunc (ρ.f 137) args).run P w = .ok (.enter (ρ.f 137) args) w := enters_of L.f137 (by kernel_rfl) rfl
  have hr : (r == 65533) = false := beq_eq_false_iff_ne.2 h3
  have hlt : ¬ r < 128 := by omega
  have hle : 0 ≤ r := by omega
  have hU : Utf8.valid r = true := by rw [validRune_eq]; unfold Lib.validRune at hv; unfold Go.validRune; simpa using hv
  have hE := encode_facts r hU h0
  obtain ⟨E, eE⟩ : ∃ E, Utf8.encode r = E := ⟨_, rfl⟩
  rw [eE] at hE
  obtain ⟨g1, g2, g3⟩ := hE
  have g3' := g3 (by omega)
  have hcs : chars2.size = 2 := rfl
  go_enter L.f152, Body.n152_ntmps ρ
  go_wp2_with (go_at_fn (ρ.f 119); refine (Any.utf8_ValidRune { L with } _ _).mono ?_; rintro e w' ⟨rfl, hw⟩; rw [hw, hv])
  go_step3
  go_wp2
  by_cases h3 : 3 ≤ E.size
  · go_loopg [9] 1 (fun g s9 wx => s9 = .int .i64 ((E.size : Int) - 1) ∧ wx = w)
    case atStart => exact ⟨rfl, rfl⟩
    case round =>
      obtain ⟨rfl, rfl⟩ := hrel
      have hnl : ¬ ((E.size : Int) - 1 < (chars2.size : Int)) := by rw [hcs]; omega
      go_wp2
      go_ret
      exact ⟨rfl, 0, rfl⟩
  have hE2 : E.size = 2 := by omega
  have mixed := L.mixed
  have u3 := run_underlying L.t3; have u4 := run_underlying L.t4; have u5 := run_underlying L.t5; have u9 := run_underlying L.t9
  have hE1 : ((E.size : Nat) : Int) - 1 = 1 := by omega
  simp only [hE1]
  go_loopg [9] 1 (fun g s9 wx => s9 = .int .i64 1 ∧ wx = w)
  case atStart => exact ⟨rfl, rfl⟩
  case round =>
    obtain ⟨rfl, rfl⟩ := hrel
    have hyl : ((1 : Int) < (chars2.size : Int)) := by rw [hcs]; omega
    have hyE : ((1 : Int) < (E.size : Int)) := by omega
    go_wp2
    go_step3
    go_wp2
    have hb0 : chars2[1]'(by rw [hcs]; omega) = 0 := rfl
    have hne : ((0 : Int) != ((E[1].toNat : Nat) : Int)) = true := by
      have : 128 ≤ E[1].toNat := by
        have e : E.size - 1 = 1 := by omega
        simp only [e] at g3'
        exact g3'
      exact bne_iff_ne.2 (by omega)
    go_quiet_o (fail)
    go_wp2
    have h2le : (2 : Int) ≤ (chars2.size : Int) := by rw [hcs]; omega
    have hsl : (0 : Int) ≤ 2 ∧ (2 : Int) ≤ (chars2.size : Int) := ⟨by omega, h2le⟩
    have hwr : IntKind.i64.wrap 2 = 2 := by decide
    have hslice : ∀ w, (Instr.sliceAt (ρ.t 9) (.string chars2) (some (.int .i64 2)) none none).run P w = .ok (.string ByteArray.empty) w := fun w => by
      have h := run_slice_string_from_if (P := P) w (ρ.t 9) chars2 .i64 2 t9
      rw [if_pos hsl] at h
      unfold Instr.sliceAt
      simp only [Sem.run_bind, u9, Result.andThen_ok]
      exact h
    go_quiet_o (first | (go_at_fn (ρ.f 137); refine (Any.strings_IndexByte { L with } _ _ _).mono ?_; rintro e w' ⟨rfl, rfl⟩; exact ⟨rfl, _, rfl⟩))
    have hio : Lib.indexByte (ByteArray.empty.data.toList) ((E[1].toNat : Nat) : Int).toNat.toUInt8 = -1 := rfl
    go_wp2
    go_simp
    go_ret
    exact ⟨rfl, _, rfl⟩
set_option maxHeartbeats 8000000 in
set_option maxRecDepth 1000000 in
theorem irune_err (L : Lays.n152 P ρ) (w : World) :
    Calls P (ρ.f 152) #[.string chars2, .int .i32 65533] w fun e w' => e = .returned (.int .i64 (-1)) ∧ ∃ pos, w' = w.iter chars2 pos := by
  have t3 := L.t3; have a3 := L.a3; have z3 := L.z3; have v3 := L.v3
  have t4 := L.t4; have a4 := L.a4; have z4 := L.z4; have v4 := L.v4
  have t5 := L.t5; have a5 := L.a5; have z5 := L.z5; have v5 := L.v5
  have t9 := L.t9; have a9 := L.a9; have z9 := L.z9; have v9 := L.v9
  have t21 := L.t21; have a21 := L.a21; have z21 := L.z21; have v21 := L.v21
  have hr : ((65533 : Int) == 65533) = true := rfl
  have hlt : ¬ (65533 : Int) < 128 := by omega
  have hle : (0 : Int) ≤ 65533 := by omega
  have hcs : chars2.size = 2 := rfl
  go_enter L.f152, Body.n152_ntmps ρ
  go_wp2
  go_loopg [5, 6] 2 (fun g _ _ wx => ∃ i : Nat, i + g = 2 ∧ wx = w.iter chars2 i)
  case atStart => exact ⟨0, rfl, rfl⟩
  case round =>
    obtain ⟨i, hig, rfl⟩ := hrel
    cases gk with
    | zero =>
      obtain rfl : i = 2 := by omega
      have hnx := fun ty => run_next_end (P := P) w chars2 2 ty (by rw [hcs]; omega)
      go_wp2
      go_ret
      exact ⟨rfl, _, rfl⟩
    | succ g =>
      have hi : i < chars2.size := by rw [hcs]; omega
      have hx128 : (chars2[i]'hi).toNat < 128 := by
        rcases (show i = 0 ∨ i = 1 by omega) with rfl | rfl
        · show (47 : UInt8).toNat < 128; decide
        · show (0 : UInt8).toNat < 128; decide
      have hnx := fun ty => run_next_ascii (P := P) w chars2 i ty hi hx128
      obtain ⟨z, hz⟩ : ∃ z : Nat, (chars2[i]'hi).toNat = z := ⟨_, rfl⟩
      rw [hz] at hnx hx128
      have hzn : ((z : Int) == 65533) = false := beq_eq_false_iff_ne.2 (by omega)
      go_wp2
      go_roundg g
      case measure => omega
      case rel => exact ⟨i + 1, by omega, rfl⟩
theorem irune_big (L : Lays.n152 P ρ) (r : Int) (w : World) (h0 : 128 ≤ r) :
    Calls P (ρ.f 152) #[.string chars2, .int .i32 r] w fun e w' => e = .returned (.int .i64 (-1)) ∧ Below w.heap.size w w' := by
  by_cases h3 : r = 65533
  · subst h3
    refine (irune_err L w).mono fun e w' ⟨h1, pos, h2⟩ => ⟨h1, ?_⟩
    rw [h2]
    exact (Below.refl _ _).alloc (Nat.le_refl _) _
  · cases hv : Lib.validRune r with
    | false => exact (irune_invalid L chars2 r w h0 hv h3).mono fun e w' ⟨h1, h2⟩ => ⟨h1, h2 ▸ Below.refl _ _⟩
    | true =>
      refine (irune_valid L r w h0 hv h3).mono fun e w' ⟨h1, n, h2⟩ => ⟨h1, ?_⟩
      rw [h2]
      exact ⟨rfl, rfl, rfl, Nat.le_refl _, fun _ _ => rfl⟩
theorem noAny_add {s chars : List UInt8} {i : Nat} : ∀ {k : Nat}, Lib.NoAny s chars i → (∀ j, i ≤ j → j < i + k → ∃ x, s[j]? = some x ∧ chars.contains x = false) → Lib.NoAny s chars (i + k)
  | 0, h, _ => h
  | k + 1, h, hx => by
    have ih := noAny_add (k := k) h fun j a b => hx j a (by omega)
    obtain ⟨x, x1, x2⟩ := hx (i + k) (by omega) (by omega)
    exact ih.succ x1 x2
set_option maxHeartbeats 8000000 in
set_option maxRecDepth 1000000 in
theorem iany_short (L : Lays.n153 P ρ) (s : ByteArray) (w : World) (h8 : s.size ≤ 8) :
    Calls P (ρ.f 153) #[.string s, .string chars2] w fun e w' => e = .returned (.int .i64 (Lib.indexAny s.data.toList chars2.data.toList)) ∧ Below w.heap.size w w' := by
  have hemp : chars2.toList.isEmpty = false := by
    rw [Lib.toList_data]; rfl
  have hcs : chars2.size = 2 := rfl
  have hn1 : ((chars2.size : Int) == 1) = false := beq_eq_false_iff_ne.2 (by omega)
  have h8z : decide ((8 : Int) < (s.size : Int)) = false := decide_eq_false (by omega)
  have t3 := L.t3; have a3 := L.a3; have z3 := L.z3; have v3 := L.v3
  have t4 := L.t4; have a4 := L.a4; have z4 := L.z4; have v4 := L.v4
  have t5 := L.t5; have a5 := L.a5; have z5 := L.z5; have v5 := L.v5
  have t9 := L.t9; have a9 := L.a9; have z9 := L.z9; have v9 := L.v9
  have t21 := L.t21; have a21 := L.a21; have z21 := L.z21; have v21 := L.v21
  have e152 : ∀ args w, (callFunc (ρ.f 152) args).run P w = .ok (.enter (ρ.f 152) args) w := enters_of L.f152 (by kernel_rfl) rfl
  have e226 : ∀ args w, (callFunc (ρ.f 226) args).run P w = .ok (.enter (ρ.f 226) args) w := enters_of L.f226 (by kernel_rfl) rfl
  go_enter L.f153, Body.n153_ntmps ρ
  go_wp2_with (go_at_fn (ρ.f 226); refine (Any.strings_shouldUseASCIISet { L with } _ _).mono ?_; rintro e w' ⟨rfl, hw⟩; rw [hw, h8z])
  go_loopg [9, 10] s.size (fun g _ _ wx => ∃ i : Nat, i + g = s.size ∧ wx.heap[w.heap.size]? = some (.stringIter s i) ∧ Below w.heap.size w wx ∧ Lib.NoAny s.data.toList chars2.data.toList i)
  case atStart => exact ⟨0, by omega, World.iter_heap w s 0, (Below.refl _ _).alloc (Nat.le_refl _) _, Lib.NoAny.zero _ _⟩
  case round =>
    obtain ⟨i, hig, hit, hbel, hno⟩ := hrel
    have HN : Aside (Lib.NoAny s.data.toList chars2.data.toList i) := hno
    clear hno
    have hlt : w.heap.size < wr.heap.size := (Array.getElem?_eq_some_iff.1 hit).1
    cases gk with
    | zero =>
      obtain rfl : i = s.size := by omega
      have hnx := fun ty => run_next_stop (P := P) wr w.heap.size s s.size ty hit (by omega)
      have HB : Aside (Below w.heap.size w wr) := hbel
      clear hbel hit
      go_wp2
      go_ret
      exact ⟨by rw [Lib.indexAny_none (by rw [← Lib.size_eq]; exact HN.out)]; rfl, HB.out⟩
    | succ g =>
      have hi : i < s.size := by omega
      obtain ⟨x, hx⟩ : ∃ x : UInt8, s[i]'hi = x := ⟨_, rfl⟩
      have hxl : s.data.toList[i]? = some x := by rw [← hx]; exact Lib.data_getElem? s i hi
      have hget : s.get! i = x := by
        rw [← hx]
        simp [ByteArray.get!, getElem!_pos, hi]
        rfl
      obtain ⟨r, k, hdk⟩ : ∃ r k, Utf8.decode s i = (r, k) := ⟨_, _, rfl⟩
      have hnx := fun ty => run_next_at (P := P) wr w.heap.size s i ty hit hi
      rw [hdk] at hnx
      simp only at hnx
      obtain ⟨wn, hwn⟩ : ∃ wn, { wr with heap := wr.heap.setIfInBounds w.heap.size (.stringIter s (i + k)) } = wn := ⟨_, rfl⟩
      rw [hwn] at hnx
      have f1 : wn.heap[w.heap.size]? = some (.stringIter s (i + k)) := by
        rw [← hwn]
        simp [Array.getElem?_setIfInBounds, hlt]
      have f2 : Below w.heap.size w wn := by
        rw [← hwn]
        refine ⟨hbel.os, hbel.tape, hbel.output, by simp only [Array.size_setIfInBounds]; exact hbel.size, fun b hb => ?_⟩
        have := hbel.block b hb
        simp only [Array.getElem?_setIfInBounds]
        rw [if_neg (by omega)]
        exact this
      have f3 : w.heap.size < wn.heap.size := (Array.getElem?_eq_some_iff.1 f1).1
      have F : Aside (wn.heap[w.heap.size]? = some (.stringIter s (i + k)) ∧ Below w.heap.size w wn ∧ w.heap.size < wn.heap.size) := ⟨f1, f2, f3⟩
      have Hx : Aside (s.data.toList[i]? = some x) := hxl
      clear f1 f2 f3 hwn hit hbel hxl hlt
      by_cases hx128 : x.toNat < 128
      · have e := decode_ascii s i hi (by rw [hx]; exact hx128)
        rw [hdk, hx] at e
        obtain ⟨rfl, rfl⟩ := Prod.mk.inj e
        have hcon := Lib.contains_iff_indexByte chars2.data.toList x
        have hback : ((x.toNat : Int)).toNat.toUInt8 = x := by simp
        clear e hdk hget hx
        cases hin : chars2.data.toList.contains x
        · rw [hin] at hcon
          have hlt0 : ¬ ((0 : Int) ≤ Lib.indexByte chars2.data.toList x) := of_decide_eq_false hcon.symm
          clear hcon
          go_wp2_with (go_at_fn (ρ.f 152); refine (Any.strings_IndexRune_ascii { L with } _ _ _ (by omega) (by omega)).mono ?_; rintro e w' ⟨rfl, hw⟩; rw [hw, hback])
          go_roundg g
          case measure => omega
          case rel => exact ⟨i + 1, by omega, F.out.1, F.out.2.1, HN.out.succ Hx.out hin⟩
        · rw [hin] at hcon
          have hge : (0 : Int) ≤ Lib.indexByte chars2.data.toList x := of_decide_eq_true hcon.symm
          clear hcon
          go_wp2_with (go_at_fn (ρ.f 152); refine (Any.strings_IndexRune_ascii { L with } _ _ _ (by omega) (by omega)).mono ?_; rintro e w' ⟨rfl, hw⟩; rw [hw, hback])
          go_ret
          exact ⟨by rw [Lib.indexAny_hit HN.out Hx.out hin]; rfl, F.out.2.1⟩
      · have hbg := decode_big s i hi (by rw [hget]; omega)
        rw [hdk] at hbg
        simp only at hbg
        obtain ⟨b1, b2, b3, b4, b5⟩ := hbg
        have HNk : Aside (Lib.NoAny s.data.toList chars2.data.toList (i + k)) := noAny_add HN.out fun j j1 j2 => by
          have hj : j < s.size := by omega
          refine ⟨s[j], Lib.data_getElem? s j hj, ?_⟩
          have h128 := b5 j j1 j2
          have hg2 : s.get! j = s[j] := by
            simp [ByteArray.get!, getElem!_pos, hj]
            rfl
          rw [hg2] at h128
          show ([47, 0] : List UInt8).contains s[j] = false
          have n1 : s[j] ≠ 47 := fun e => by rw [e] at h128; exact absurd h128 (by decide)
          have n2 : s[j] ≠ 0 := fun e => by rw [e] at h128; exact absurd h128 (by decide)
          simp [n1, n2]
        clear b5 hdk hget hx
        have hlt1 : ¬ ((0 : Int) ≤ -1) := by omega
        go_wp2_with (go_at_fn (ρ.f 152); refine (irune_big { L with } _ _ (by omega)).mono ?_; rintro e w2 ⟨rfl, hw2⟩)
        go_roundg (s.size - (i + k))
        case measure => omega
        case rel =>
          have e2 := hw2.block w.heap.size F.out.2.2
          refine ⟨i + k, by omega, by rw [e2]; exact F.out.1, ?_, HNk.out⟩
          have hf := F.out.2.1
          refine ⟨hw2.os.trans hf.os, hw2.tape.trans hf.tape, hw2.output.trans hf.output, Nat.le_trans hf.size hw2.size, fun b hb => ?_⟩
          rw [hw2.block b (Nat.lt_trans hb F.out.2.2)]
          exact hf.block b hb
theorem iany2 (L : Lays.n153 P ρ) (hv116 : ∀ w, (zeroValue (ρ.t 116)).run P w = .ok (.agg (Array.replicate 256 (.bool false))) w) (hi116 : (P.info? (ρ.t 116)).map (·.size) = some 256) (s : ByteArray) (w : World) (hs : s.size < 4294967281) :
    Calls P (ρ.f 153) #[.string s, .string chars2] w fun e w' => e = .returned (.int .i64 (Lib.indexAny s.data.toList chars2.data.toList)) ∧ Below w.heap.size w w' := by
  by_cases h8 : s.size ≤ 8
  · exact iany_short L s w h8
  · refine (Any.strings_IndexAny_long L hv116 hi116 s chars2 w (Nat.le_refl _) (by omega) hs (by decide) fun j b hj => ?_).mono fun e w' ⟨h1, h2⟩ => ⟨h1, ?_⟩
    · have : b ∈ ([47, 0] : List UInt8) := List.mem_of_getElem? hj
      rcases List.mem_cons.1 this with rfl | h
      · decide
      · rcases List.mem_cons.1 h with rfl | h
        · decide
        · cases h
    · rw [h2]
      exact ((Below.refl _ _).alloc (Nat.le_refl _) _).alloc (by simp) _
set_option maxHeartbeats 1000000 in
theorem cany2 (L : Lays.n150 P ρ) (h116 : (P.info? (ρ.t 116)).map (fun i => (i.zero, i.size)) = some (some (.agg (Array.replicate 256 (.bool false))), 256)) (s : ByteArray) (w : World) (hs : s.size < 4294967281) :
    Calls P (ρ.f 150) #[.string s, .string chars2] w fun e w' => e = .returned (.bool (Lib.containsAny s.data.toList chars2.data.toList)) ∧ Below w.heap.size w w' := by
  have c := iany2 { L with } (zero_of_info h116).1 (zero_of_info h116).2 s w hs
  have t3 := L.t3; have a3 := L.a3; have z3 := L.z3; have v3 := L.v3
  have t4 := L.t4; have a4 := L.a4; have z4 := L.z4; have v4 := L.v4
  have t9 := L.t9; have a9 := L.a9; have z9 := L.z9; have v9 := L.v9
  have e153 : ∀ args w, (callFunc (ρ.f 153) args).run P w = .ok (.enter (ρ.f 153) args) w := enters_of L.f153 (by kernel_rfl) rfl
  go_enter L.f150, Body.n150_ntmps ρ
  go_wp2_with (go_at_fn (ρ.f 153); refine c.mono ?_; rintro e w' ⟨rfl, hw⟩)
  go_ret
  exact ⟨rfl, hw⟩
end Go.Proofs.YtmmclabkkigiaaaGreat

namespace Go.Proofs.YtmmclabkkigiaaaGreat
open Go Go.Shelf
def strRen150 : Ren :=
  {
    f := fun x =>
      match x with
      | 150 => 71
      | 153 => 94
      | 152 => 109
      | 226 => 110
      | 227 => 111
      | 228 => 112
      | 137 => 128
      | 119 => 129
      | 224 => 126
      | 225 => 125
      | 217 => 124
      | 266 => 135
      | n => n,
    t := fun x =>
      match x with
      | 9 => 9
      | 4 => 4
      | 3 => 3
      | 5 => 5
      | 21 => 21
      | 117 => 190
      | 116 => 189
      | 0 => 0
      | 46 => 81
      | 124 => 215
      | n => n,
    g := fun x =>
      x }
theorem strLays150 : Lays.n150 Tryz.prog strRen150 :=
  { mixed := rfl, f119 := Tryz.func129.trans (congrArg some (by kernel_rfl)), f137 := Tryz.func128.trans (congrArg some (by kernel_rfl)), f150 := Tryz.func71.trans (congrArg some (by kernel_rfl)), f152 := Tryz.func109.trans (congrArg some (by kernel_rfl)), f153 := Tryz.func94.trans (congrArg some (by kernel_rfl)), f217 := Tryz.func124.trans (congrArg some (by kernel_rfl)), f224 := Tryz.func126.trans (congrArg some (by kernel_rfl)), f225 := Tryz.func125.trans (congrArg some (by kernel_rfl)), f226 := Tryz.func110.trans (congrArg some (by kernel_rfl)), f227 := Tryz.func111.trans (congrArg some (by kernel_rfl)), f228 := Tryz.func112.trans (congrArg some (by kernel_rfl)), f266 := Tryz.func135.trans (congrArg some (by kernel_rfl)), t0 := Tryz.underlying0, a0 := Tryz.isAgg0, z0 := Tryz.sizeOf0, v0 := Tryz.zeroValue0, t3 := Tryz.underlying3, a3 := Tryz.isAgg3, z3 := Tryz.sizeOf3, v3 := Tryz.zeroValue3, t4 := Tryz.underlying4, a4 := Tryz.isAgg4, z4 := Tryz.sizeOf4, v4 := Tryz.zeroValue4, t5 := Tryz.underlying5, a5 := Tryz.isAgg5, z5 := Tryz.sizeOf5, v5 := Tryz.zeroValue5, t9 := Tryz.underlying9, a9 := Tryz.isAgg9, z9 := Tryz.sizeOf9, v9 := Tryz.zeroValue9, t21 := Tryz.underlying21, a21 := Tryz.isAgg21, z21 := Tryz.sizeOf21, v21 := Tryz.zeroValue21, t46 := Tryz.underlying81, a46 := Tryz.isAgg81, z46 := Tryz.sizeOf81, v46 := Tryz.zeroValue81, t116 := Tryz.underlying189, a116 := Tryz.isAgg189, z116 := Tryz.sizeOf189, t117 := Tryz.underlying190, a117 := Tryz.isAgg190, z117 := Tryz.sizeOf190, v117 := Tryz.zeroValue190, t124 := Tryz.underlying215, a124 := Tryz.isAgg215, z124 := Tryz.sizeOf215, v124 := Tryz.zeroValue215 }
end Go.Proofs.YtmmclabkkigiaaaGreat

namespace Go.Proofs.YtmmclabkkigiaaaGreat
open Go Go.RowKit Go.Shelf
theorem Spec.ofBelow {P : Program} {f : FuncId} {args : Array Value} {B : Nat} {w : World} {v : Value} (h : Calls P f args w fun e w' => e = .returned v ∧ Below w.heap.size w w') : Spec P f args B w [] (fun u H' => u = v ∧ H' = []) :=
  fun l hB hs => h.mono fun e w' ⟨he, hb⟩ => ⟨v, he, [], [], ⟨rfl, rfl⟩, fun _ h => (by cases h), ⟨hb.os, hb.tape, hb.output, hb.size, fun b h1 _ => hb.block b h1, fun b h => (by cases h)⟩⟩
def badB (s : ByteArray) : Bool := Lib.containsAny s.data.toList [47, 0]
theorem anyB : ∀ l : List UInt8, Lib.containsAny l [47, 0] = l.any fun b => b == 47 || b == 0
  | [] => rfl
  | b :: l => by
    have ih := anyB l
    have hge := Lib.indexAny_ge [47, 0] l
    unfold Lib.containsAny at *
    rw [List.any_cons, ← ih, Lib.indexAny]
    have hc : ([47, 0] : List UInt8).contains b = (b == 47 || b == 0) := by simp only [List.contains_cons, List.contains_nil, Bool.or_false]
    rw [hc]
    cases hb : (b == 47 || b == 0) with
    | true => simp
    | false =>
      rw [if_neg (by decide), Bool.false_or]
      by_cases e : Lib.indexAny l [47, 0] = -1
      · rw [e]; decide
      · rw [if_neg (by simpa using e)]
        exact decide_eq_decide.2 (by omega)
theorem badB_iff {s : ByteArray} : badB s = true ↔ ∃ j, j < s.size ∧ ((strNums s).getD j 0 = 47 ∨ (strNums s).getD j 0 = 0) := by
  unfold badB
  rw [anyB, List.any_eq_true]
  constructor
  · rintro ⟨b, hb, hc⟩
    obtain ⟨j, hj, e⟩ := List.getElem_of_mem hb
    have hj2 : j < s.size := by rw [Array.length_toList] at hj; exact hj
    refine ⟨j, hj2, ?_⟩
    have eg : (strNums s).getD j 0 = (b.toNat : Int) := by
      unfold strNums
      simp only [List.getD, List.getElem?_map, List.getElem?_eq_getElem hj, Option.map_some, Option.getD_some, e]
    rw [eg]
    simp only [Bool.or_eq_true, beq_iff_eq] at hc
    rcases hc with rfl | rfl
    · exact .inl rfl
    · exact .inr rfl
  · rintro ⟨j, hj, hc⟩
    have hj2 : j < s.data.toList.length := by rw [Array.length_toList]; exact hj
    refine ⟨s.data.toList[j], List.getElem_mem hj2, ?_⟩
    have eg : (strNums s).getD j 0 = ((s.data.toList[j]).toNat : Int) := by
      unfold strNums
      simp only [List.getD, List.getElem?_map, List.getElem?_eq_getElem hj2, Option.map_some, Option.getD_some]
    rw [eg] at hc
    simp only [Bool.or_eq_true, beq_iff_eq]
    rcases hc with hc | hc
    · exact .inl (UInt8.toNat_inj.1 (by have : (47 : UInt8).toNat = 47 := rfl; omega))
    · exact .inr (UInt8.toNat_inj.1 (by have : (0 : UInt8).toNat = 0 := rfl; omega))
theorem cany_spec {s : ByteArray} (hs : s.size < 4294967281) (B : Nat) (w : World) : Spec Tryz.prog 71 #[.string s, .string (ByteArray.mk #[47, 0])] B w [] (fun v H' => v = .bool (badB s) ∧ H' = []) :=
  Spec.ofBelow (cany2 strLays150 (by kernel_rfl) s w hs)
end Go.Proofs.YtmmclabkkigiaaaGreat

set_option maxRecDepth 20000
set_option maxHeartbeats 1000000
namespace Go.Proofs.YtmmclabkkigiaaaGreat
open Go Go.RowKit
def emay_M (tx_ : ByteArray) : Option (Bool) :=
 if (tx_.size : Int) ≥ 1 then (if (tx_.size : Int) ≤ 40 then (need (tx_.size < 4294967281) <|
if (badB tx_) = true then (some false) else (if (tx_.toList == (ByteArray.mk #[46]).toList) = true then (some false) else (some (!(tx_.toList == (ByteArray.mk #[46, 46]).toList))))) else (some false)) else (some false)
theorem emay_walk {tx_ : ByteArray}  {r : Bool} (B : Nat) (w : World) (hm : emay_M tx_ = some r) : Spec Tryz.prog 37 #[(.string tx_)] B w [] (fun v H' => v = .bool r ∧ H' = []) := by
 refine spec_Q Tryz.func37 rfl fun hs => ?_
 unfold emay_M at hm
 refine W.sr fun K1 hK1 => ?_
 refine zE 1 (hK1 _ _ ?_)
 refine W.sr fun K2 hK2 => ?_
 refine zR 4 ?_
 rcases Bool.eq_false_or_eq_true (decide ((tx_.size : Int) ≥ 1)) with h3 | h3
 ·
  obtain ⟨h3p, hm⟩ := iY hm h3
  refine zS 6 h3 ?_
  refine zS 5 h3 ?_
  refine zR 5 ?_
  rcases Bool.eq_false_or_eq_true (decide ((tx_.size : Int) ≤ 40)) with h4 | h4
  ·
   obtain ⟨h4p, hm⟩ := iY hm h4
   refine zS 11 h4 ?_
   refine zS 9 h4 ?_
   refine zS 10 h4 ?_
   refine zR 1 ?_
   obtain ⟨h5, hm⟩ := need_some hm
   refine zC00 hs (cany_spec (s := tx_) (hs := h5) B _) fun w6 hs8 => ?_
   refine zR 3 ?_
   rcases Bool.eq_false_or_eq_true (!(badB tx_)) with h9 | h9
   rotate_left
   ·
    have h9p : (badB tx_) = true := (bnot_false h9)
    replace hm := ite_yes hm h9p
    refine zS 16 h9 ?_
    refine zS 14 h9 ?_
    refine zS 15 h9 ?_
    refine zE 8 (hK2 _ _ ?_)
    refine W.ret ?_
    obtain rfl := some_inj hm
    refine ret_of (.bool false) (by kernel_rfl) ⟨_, ⟨rfl, rfl⟩, hs8⟩
   have h9p : ¬ ((badB tx_) = true) := ne_true_of_eq_false (bnot_true h9)
   replace hm := ite_no hm h9p
   refine zS 16 h9 ?_
   refine zS 14 h9 ?_
   refine zS 15 h9 ?_
   refine zR 4 ?_
   rcases Bool.eq_false_or_eq_true (!(tx_.toList == (ByteArray.mk #[46]).toList)) with h10 | h10
   rotate_left
   ·
    have h10p : (tx_.toList == (ByteArray.mk #[46]).toList) = true := (bnot_false h10)
    replace hm := ite_yes hm h10p
    refine zS 20 h10 ?_
    refine zS 18 h10 ?_
    refine zS 19 h10 ?_
    refine zE 4 (hK2 _ _ ?_)
    refine W.ret ?_
    obtain rfl := some_inj hm
    refine ret_of (.bool false) (by kernel_rfl) ⟨_, ⟨rfl, rfl⟩, hs8⟩
   have h10p : ¬ ((tx_.toList == (ByteArray.mk #[46]).toList) = true) := ne_true_of_eq_false (bnot_true h10)
   replace hm := ite_no hm h10p
   refine zS 20 h10 ?_
   refine zS 18 h10 ?_
   refine zS 19 h10 ?_
   refine zE 4 (hK2 _ _ ?_)
   refine W.ret ?_
   obtain rfl := some_inj hm
   refine ret_of (.bool (!(tx_.toList == (ByteArray.mk #[46, 46]).toList))) (by kernel_rfl) ⟨_, ⟨rfl, rfl⟩, hs8⟩
  obtain ⟨h4p, hm⟩ := iN hm h4
  refine zS 11 h4 ?_
  refine zS 9 h4 ?_
  refine zS 10 h4 ?_
  refine zE 13 (hK2 _ _ ?_)
  refine W.ret ?_
  obtain rfl := some_inj hm
  refine ret_of (.bool false) (by kernel_rfl) ⟨_, ⟨rfl, rfl⟩, hs⟩
 obtain ⟨h3p, hm⟩ := iN hm h3
 refine zS 6 h3 ?_
 refine zS 5 h3 ?_
 refine zE 18 (hK2 _ _ ?_)
 refine W.ret ?_
 obtain rfl := some_inj hm
 refine ret_of (.bool false) (by kernel_rfl) ⟨_, ⟨rfl, rfl⟩, hs⟩
end Go.Proofs.YtmmclabkkigiaaaGreat

set_option maxRecDepth 20000
namespace Go.Proofs.YtmmclabkkigiaaaGreat
open Go Go.RowKit
theorem sumnew_spec  (B : Nat) (w : World) : Spec Tryz.prog 113 #[] B w [] (fun v H' => ∃ b, v = ptr b ∧ H' = [zb b 217 [(zu 14695981039346656037)]]) := by
 refine spec_Q Tryz.func113 rfl fun hs => ?_
 refine W.sr fun K1 hK1 => ?_
 refine zE 1 (hK1 _ _ ?_)
 refine W.sr fun K2 hK2 => ?_
 refine zR 1 ?_
 refine zN [(zu 14695981039346656037)] 217 hs fun b5 w3 hs4 => ?_
 refine zE 1 (hK2 _ _ ?_)
 refine W.ret ?_
 refine ret_of (zp b5) (by kernel_rfl) ⟨_, ⟨b5, rfl, rfl⟩, hs4⟩
def sumadd_M (s_ : Int) (w_ : Int) : Option (Int) :=
 (some (bits .xor .u64 s_ w_)).bind fun r2 =>
some ((r2 * 1099511628211) % 18446744073709551616)
theorem sumadd_walk {s_ : Int} {w_ : Int} {sb : Nat} {r : Int} (B : Nat) (w : World) (hm : sumadd_M s_ w_ = some r) : Spec Tryz.prog 114 #[(zp sb), (zu w_)] B w [zb sb 217 [(zu s_)]] (fun v H' => v = .tuple #[] ∧ H' = [zb sb 217 [(zu r)]]) := by
 refine spec_W Tryz.func114 rfl fun l0 hs => ?_
 unfold sumadd_M at hm
 refine W.sr fun K1 hK1 => ?_
 refine zE 2 (hK1 _ _ ?_)
 refine W.cond_true true (by kernel_rfl) rfl ?_
 refine W.region ?_
 refine zR 4 ?_
 refine zL ⟨sb, 0, none⟩ (zu s_) (hs.cellAt 0 rfl rfl) ?_
 refine zR 2 ?_
 obtain ⟨r2, h3, hm⟩ := bind_some hm
 replace h3 := some_inj h3
 refine ops_set 12 (v := .int .u64 r2) (Eq.trans (by kernel_rfl) (congrArg (Value.int .u64) h3)) ?_
 refine ops_val (v := .int .u64 (IntKind.u64.wrap (r2 * 1099511628211))) (v' := .int .u64 ((r2 * 1099511628211) % 18446744073709551616)) (by kernel_rfl) (congrArg (Value.int .u64) (wrap_u64_mod _)) ?_
 refine zR 2 ?_
 refine zT 0 [(zu ((r2 * 1099511628211) % 18446744073709551616))] [(zu ((r2 * 1099511628211) % 18446744073709551616))] hs fun w4 hs6 => ?_
 refine zD ?_
 obtain rfl := some_inj hm
 refine ret_ofN (.tuple #[]) (by kernel_rfl) ⟨_, ⟨rfl, rfl⟩, hs6⟩
def sumnow_M (s_ : Int) : Option (Int) :=
 some s_
theorem sumnow_walk {s_ : Int} {sb : Nat} {r : Int} (B : Nat) (w : World) (hm : sumnow_M s_ = some r) : Spec Tryz.prog 116 #[(zp sb)] B w [zb sb 217 [(zu s_)]] (fun v H' => v = .int .u64 r ∧ H' = [zb sb 217 [(zu s_)]]) := by
 refine spec_W Tryz.func116 rfl fun l0 hs => ?_
 unfold sumnow_M at hm
 refine W.sr fun K1 hK1 => ?_
 refine zE 1 (hK1 _ _ ?_)
 refine W.seq fun K2 hK2 => ?_
 refine W.sr fun K3 hK3 => ?_
 refine zE 2 (hK3 _ _ ?_)
 refine W.cond_false false (by kernel_rfl) rfl ?_
 refine W.skip ?_
 refine hK2 _ _ ?_
 refine W.sr fun K4 hK4 => ?_
 refine zR 3 ?_
 refine zL ⟨sb, 0, none⟩ (zu s_) (hs.cellAt 0 rfl rfl) ?_
 refine zE 1 (hK4 _ _ ?_)
 refine W.ret ?_
 obtain rfl := some_inj hm
 refine ret_of (zu s_) (by kernel_rfl) ⟨_, ⟨rfl, rfl⟩, hs⟩
end Go.Proofs.YtmmclabkkigiaaaGreat

set_option maxRecDepth 20000
set_option maxHeartbeats 2000000
namespace Go.Proofs.YtmmclabkkigiaaaGreat
open Go Go.RowKit
theorem values_spec {wa : Option Addr} {wc : Nat} {ws : List Int} (B : Nat) (w : World) : Spec Tryz.prog 115 #[(.slice wa ws.length wc)] B w [] (fun v H' => ∃ b1, v = .func (.func 130) #[] #[ptr b1] ∧ H' = [zb b1 31 [(.slice wa ws.length wc)]]) := by
 refine spec_Q Tryz.func115 rfl fun hs => ?_
 refine W.sr fun K1 hK1 => ?_
 refine zN [(.slice wa ws.length wc)] 31 hs fun b4 w2 hs3 => ?_
 refine zE 1 (hK1 _ _ ?_)
 refine W.sr fun K5 hK5 => ?_
 refine zE 2 (hK5 _ _ ?_)
 refine W.ret ?_
 refine ret_of (.func (.func 130) #[] #[(zp b4)]) (by kernel_rfl) ⟨_, ⟨b4, rfl, rfl⟩, hs3⟩
theorem values1_spec {c1 yl : Nat} {wa : Option Addr} {wc : Nat} {ws : List Int} {Y : Nat → Asn} {Z : Asn} (B : Nat) (w : World) (hbm : ws.length ≤ 1000000) (hy : ∀ k : Nat, k < ws.length → ∀ w', YSpec Tryz.prog yl #[(zu (ws.getD k 0))] B w' [Y k] (fun v H' => (v = .bool true ∧ H' = [Y (k + 1)]) ∨ (v = .bool false ∧ H' = [Z]))) : Spec Tryz.prog 130 #[(.func (.yield yl) #[] #[]), (zp c1)] B w [zb c1 31 [(.slice wa ws.length wc)], kU64.row wa wc ws, Y 0] (fun v H' => v = .tuple #[] ∧ (H' = [zb c1 31 [(.slice wa ws.length wc)], kU64.row wa wc ws, Y ws.length] ∨ H' = [zb c1 31 [(.slice wa ws.length wc)], kU64.row wa wc ws, Z])) := by
 refine spec_W Tryz.func130 rfl fun l0 hs => ?_
 refine W.sr fun K1 hK1 => ?_
 refine zL ⟨c1, 0, none⟩ (.slice wa ws.length wc) (hs.cellAt 0 rfl rfl) ?_
 refine zE 2 (hK1 _ _ ?_)
 refine W.block ?_
 refine W.loop (G := Nat) (fun | k, s_, w_ => (∃ us, s_ = slots 16 [(0, (.func (.yield yl) #[] #[])), (5, (.slice wa ws.length wc)), (6, (zi (ws.length : Int))), (7, (zi ((k : Nat) : Int)))] us) ∧ St B w l0 w_ [zb c1 31 [(.slice wa ws.length wc)], kU64.row wa wc ws, Y k] ∧ (k ≤ ws.length)) (fun k => ws.length - k) 0 ⟨slots_intro _ (by kernel_rfl), hs, by omega⟩ ?_
 rintro k _ w2 ⟨⟨us, rfl⟩, hs3, hk0⟩
 refine W.sr fun K4 hK4 => ?_
 refine zE 1 (hK4 _ _ ?_)
 refine W.seq fun K5 hK5 => ?_
 refine W.cond (decide (((k : Nat) : Int) < (ws.length : Int))) (by kernel_rfl) (fun h6 => ?_) (fun h6 => ?_)
 ·
  have h6p := of_decide_eq_true h6
  refine W.skip ?_
  refine hK5 _ _ ?_
  refine W.seq fun K7 hK7 => ?_
  refine W.block ?_
  refine W.sr fun K8 hK8 => ?_
  have h10 : (k : Nat) < ws.length := by omega
  have hk9 := h10
  refine ops_R (runs_index (a := wa) (n := ws.length) (z := ((k : Nat) : Int)) (size := 1) (k : Nat) rfl hk9 (kU64.addr (St.kcells kU64 hs3 1 rfl) hk9) (by kernel_rfl)) ?_
  refine zL ((adr wa ((k : Nat) * 1)).add 0) (zu (ws.getD (k : Nat) 0)) (kU64.at (St.kcells kU64 hs3 1 rfl) hk9 0 0 rfl) ?_
  refine zE 1 (hK8 _ _ ?_)
  refine W.sr fun K11 hK11 => ?_
  refine zR 2 ?_
  have hs12 := St.f2 hs3
  refine ops_yield (pre := [Y k]) (l := yl) hs12 (by kernel_rfl) (by kernel_rfl) (hy k (by omega) _) ?_
  rintro _ _ w13 (⟨rfl, rfl⟩ | ⟨rfl, rfl⟩) hs14
  ·
   have hs15 : St B w l0 w13 [Y (k + 1), zb c1 31 [(.slice wa ws.length wc)], kU64.row wa wc ws] := hs14
   refine zE 1 (hK11 _ _ ?_)
   refine W.cond_false false (by kernel_rfl) rfl ?_
   refine W.skip ?_
   refine normal_block ?_
   refine hK7 _ _ ?_
   refine W.region ?_
   have h16 : -9223372036854775808 ≤ (((k : Nat) : Int) + 1) ∧ (((k : Nat) : Int) + 1) ≤ 9223372036854775807 := by omega
   refine zI _ (wrap_i64 h16.1 h16.2) ?_
   refine zE 1 ?_
   have hs17 := St.f2 hs15
   have hs18 := St.f2 hs17
   exact ⟨k + 1, ⟨slots_intro _ (by kernel_rfl), hs18, by omega⟩, by omega⟩
  have hs19 : St B w l0 w13 [Z, zb c1 31 [(.slice wa ws.length wc)], kU64.row wa wc ws] := hs14
  refine zE 1 (hK11 _ _ ?_)
  refine W.cond_true true (by kernel_rfl) rfl ?_
  refine W.ret (ret_block (ret_seq (ret_seq (ret_block ?_))))
  have hs20 := St.f2 hs19
  have hs21 := St.f2 hs20
  refine ret_of (.tuple #[]) (by kernel_rfl) ⟨_, ⟨rfl, .inr rfl⟩, hs21⟩
 have h6p := of_decide_eq_false h6
 refine W.exit (exit_seq (exit_seq (exit_here ?_)))
 have hn_ : k = ws.length := by omega
 subst hn_
 refine ret_ofN (.tuple #[]) (by kernel_rfl) ⟨_, ⟨rfl, .inl rfl⟩, hs3⟩
end Go.Proofs.YtmmclabkkigiaaaGreat

set_option maxRecDepth 20000
set_option maxHeartbeats 4000000
namespace Go.Proofs.YtmmclabkkigiaaaGreat
open Go Go.RowKit
def sumof_D29 (p28 : Int) : Option (Int) :=
 (sumnow_M p28).bind fun r44 =>
some r44
def sumof_R29 (ws : List Int) (k22 : Nat) (c23 : Int → Option (Int)) (p28 : Int) : Option (Int) :=
 (sumadd_M p28 (ws.getD k22 0)).bind fun r67 =>
c23 r67
def sumof_M (ws : List Int) : Option (Int) :=
 need (ws.length ≤ 1000000) <|
rounds (fun k_ c_ s_ => sumof_R29 ws k_ c_ s_) (fun s_ => sumof_D29 s_) ws.length 0 14695981039346656037
theorem sumof_walk {ws : List Int} {wa : Option Addr} {wc : Nat} {r : Int} (B : Nat) (w : World) (hm : sumof_M ws = some r) : Spec Tryz.prog 96 #[(.slice wa ws.length wc)] B w [kU64.row wa wc ws] (fun v H' => v = .int .u64 r ∧ H' = [kU64.row wa wc ws]) := by
 refine spec_W Tryz.func96 rfl fun l0 hs => ?_
 unfold sumof_M at hm
 refine W.sr fun K1 hK1 => ?_
 refine zE 1 (hK1 _ _ ?_)
 refine W.sr fun K2 hK2 => ?_
 refine ops_call0 hs (by kernel_rfl) (sumnew_spec B _) ?_
 rintro _ _ w4 ⟨b3, rfl, rfl⟩ hs5
 have hs6 := St.ap1 hs5
 refine zE 1 (hK2 _ _ ?_)
 refine W.sr fun K7 hK7 => ?_
 refine zR 2 ?_
 refine zN [.nilFunc] 195 hs6 fun b10 w8 hs9 => ?_
 refine zT 0 [(.func (.func 114) #[(zp b3)] #[])] [(.func (.func 114) #[(zp b3)] #[])] hs9 fun w11 hs13 => ?_
 refine zD (hK7 _ _ ?_)
 refine W.seq fun K14 hK14 => ?_
 refine W.sr fun K15 hK15 => ?_
 refine zR 1 ?_
 refine ops_call0 hs13 (by kernel_rfl) (values_spec (wa := wa) (wc := wc) (ws := ws) B _) ?_
 rintro _ _ w17 ⟨b16, rfl, rfl⟩ hs18
 have hs19 := St.ap1 hs18
 refine zD (hK15 _ _ ?_)
 refine W.block ?_
 obtain ⟨h20, hm⟩ := need_some hm
 refine W.norm (n := 17) (l := [(3, (zp b3)), (4, (zp b10)), (10, (.func (.func 130) #[] #[(zp b16)]))]) (by kernel_rfl) (fun us21 => ?_)
 have hs24 := St.f2 hs19
 have hs25 := St.f2 hs24
 have hs26 := St.f3 hs25
 have hs27 := St.f3 hs26
 have hs34 := St.f3 hs27
 have hs35 := St.f3 hs34
 have hs36 := St.f3 hs35
 have hs37 := St.f3 hs36
 have hF38 : rounds (fun k_ c_ s_ => sumof_R29 ws k_ c_ s_) (fun s_ => sumof_D29 s_) (ws.length - 0) 0 14695981039346656037 = some r := by rw [Nat.sub_zero]; exact hm
 clear hm
 refine W.roundsA (G := Int) (GZ := Unit) (gf := 130) (lb := #[(zp b16)]) ws.length (fun k_ p28 => rounds (fun k_ c_ s_ => sumof_R29 ws k_ c_ s_) (fun s_ => sumof_D29 s_) (ws.length - k_) k_ p28 = some r) (fun p28 => [zb b10 195 [(.func (.func 114) #[(zp b3)] #[])], zb b3 217 [(zu p28)]]) .ret (fun (_ : Unit) => False) (fun _ => []) [zb b16 31 [(.slice wa ws.length wc)], kU64.row wa wc ws] (fun k_ => #[(zu (ws.getD k_ 0))]) (fun k_ l_ => slotsD 17 ((11, (zu (ws.getD k_ 0))) :: [(3, (zp b3)), (4, (zp b10)), (10, (.func (.func 130) #[] #[(zp b16)]))]) us21 (some l_) []) 14695981039346656037 hF38 hs37 rfl (by kernel_rfl) (fun _ _ => by kernel_rfl) (fun _ => rfl) (fun a_ k_ l_ h1_ h2_ => ⟨rel_round1 (n := 17) (by decide) h1_ h2_, rfl⟩) (fun l_ => #[.func (.yield l_) #[] #[], (zp b16)]) (fun _ => rfl) (fun l_ w_ Y_ Z_ hy_ => values1_spec (ws := ws) (yl := l_) (Y := Y_) (Z := Z_) (hbm := h20) (hy := fun k_ h_ w_ => hy_ k_ h_ w_) _ w_) ?_ ?_ ?_
 rotate_left
 ·
  rintro D33 w39 p28 hF41 hs40
  replace hF41 : rounds (fun k_ c_ s_ => sumof_R29 ws k_ c_ s_) (fun s_ => sumof_D29 s_) (ws.length - ws.length) ws.length p28 = some r := hF41
  rw [rounds_end] at hF41
  have hm : sumof_D29 p28 = some r := hF41
  clear hF41
  unfold sumof_D29 at hm
  have hs42 : St B w l0 w39 [blk D33 (.deferred (some [])), zb b16 31 [(.slice wa ws.length wc)], kU64.row wa wc ws, zb b10 195 [(.func (.func 114) #[(zp b3)] #[])], zb b3 217 [(zu p28)]] := hs40
  refine normal_block ?_
  refine hK14 _ _ ?_
  refine W.sr fun K43 hK43 => ?_
  refine zR 1 ?_
  obtain ⟨r44, h45, hm⟩ := bind_some hm
  have hs46 := St.f4 hs42
  refine zC11 hs46 (sumnow_walk (sb := b3) (s_ := p28) (hm := h45) B _) fun w47 hs49 => ?_
  refine zE 1 (hK43 _ _ ?_)
  refine W.ret ?_
  obtain rfl := some_inj hm
  have hs50 := St.f4 hs49
  have hs51 := St.f4 hs50
  have hs52 := St.f4 hs51
  have hs53 := St.f3 hs52
  have hs54 := St.f4 hs53
  refine leave_mark (D := D33) (v := (zu r44)) hs54 (by kernel_rfl) (fun w55 hs56 => (resD_one rfl (.tmp (by kernel_rfl)))) (fun w55 hs56 => ?_)
  have hs57 := St.f2 hs56
  have hs58 := St.tk1 hs57
  exact ⟨_, ⟨rfl, rfl⟩, hs58⟩
 ·
  rintro _ _ _ h_ _
  exact h_.elim
 rintro k22 hk59 rc31 l30 w60 p28 hF64 lf61 hs62 K63 hK63
 replace hF64 : rounds (fun k_ c_ s_ => sumof_R29 ws k_ c_ s_) (fun s_ => sumof_D29 s_) (ws.length - k22) k22 p28 = some r := hF64
 rw [rounds_at hk59] at hF64
 obtain ⟨c23, hc23⟩ : ∃ c_, c_ = rounds (fun k_ c_ s_ => sumof_R29 ws k_ c_ s_) (fun s_ => sumof_D29 s_) (ws.length - (k22 + 1)) (k22 + 1) := ⟨_, rfl⟩
 rw [← hc23] at hF64
 have hm : sumof_R29 ws k22 c23 p28 = some r := hF64
 clear hF64
 unfold sumof_R29 at hm
 refine W.region ?_
 refine zE 1 ?_
 refine hK63 _ _ hs62 (fun w65 hs66 => ?_)
 refine W.block ?_
 refine W.region ?_
 refine zL ⟨b10, 0, none⟩ (.func (.func 114) #[(zp b3)] #[]) (hs66.cellAt 1 rfl rfl) ?_
 refine zR 1 ?_
 obtain ⟨r67, h68, hm⟩ := bind_some hm
 have hs69 := St.f2 hs66
 refine zC11 hs69 (sumadd_walk (sb := b3) (s_ := p28) (w_ := (ws.getD k22 0)) (hm := h68) B _) fun w70 hs72 => ?_
 refine zD ?_
 refine normal_block ?_
 have hs73 := St.f2 hs72
 have hs74 := St.f2 hs73
 rw [hc23] at hm
 exact ⟨r67, hm, hs74⟩
end Go.Proofs.YtmmclabkkigiaaaGreat

set_option maxRecDepth 20000
set_option maxHeartbeats 2000000
namespace Go.Proofs.YtmmclabkkigiaaaGreat
open Go Go.RowKit
def ebegin_M (tx_ : ByteArray) : Option (Int) :=
 (emay_M tx_).bind fun r4 =>
if r4 = true then ((opack_M tx_).bind fun r13 =>
(sumof_M r13).bind fun r18 =>
need (-9223372036854775808 ≤ (r18.tmod 12) ∧ (r18.tmod 12) ≤ 9223372036854775807) <|
some (r18.tmod 12)) else (some 0)
theorem ebegin_walk {tx_ : ByteArray}  {r : Int} (B : Nat) (w : World) (hm : ebegin_M tx_ = some r) : Spec Tryz.prog 74 #[(.string tx_)] B w [] (fun v H' => v = .int .i64 r ∧ H' = []) := by
 refine spec_Q Tryz.func74 rfl fun hs => ?_
 unfold ebegin_M at hm
 refine W.sr fun K1 hK1 => ?_
 refine zE 1 (hK1 _ _ ?_)
 refine W.seq fun K2 hK2 => ?_
 refine W.sr fun K3 hK3 => ?_
 refine zR 1 ?_
 obtain ⟨r4, h5, hm⟩ := bind_some hm
 refine zC00 hs (emay_walk (tx_ := tx_) (hm := h5) B _) fun w6 hs8 => ?_
 refine zE 1 (hK3 _ _ ?_)
 refine W.cond (!r4) (by kernel_rfl) (fun h9 => ?_) (fun h9 => ?_)
 rotate_left
 ·
  have h9p : r4 = true := (bnot_false h9)
  replace hm := ite_yes hm h9p
  refine W.skip ?_
  refine hK2 _ _ ?_
  refine W.sr fun K10 hK10 => ?_
  refine zR 1 ?_
  obtain ⟨r13, h14, hm⟩ := bind_some hm
  refine ops_call0 hs8 (by kernel_rfl) (opack_walk (hm := h14) B _) ?_
  rintro _ _ w15 ⟨a11, c12, rfl, rfl⟩ hs16
  have hs17 := St.ap1 hs16
  obtain ⟨r18, h19, hm⟩ := bind_some hm
  refine zC11 hs17 (sumof_walk (wa := a11) (wc := c12) (ws := r13) (hm := h19) B _) fun w20 hs22 => ?_
  refine zR 1 ?_
  obtain ⟨h23, hm⟩ := need_some hm
  refine zI _ (wrap_i64 h23.1 h23.2) ?_
  refine zE 1 (hK10 _ _ ?_)
  refine W.ret ?_
  obtain rfl := some_inj hm
  have hs24 := St.tk0 hs22
  refine ret_of (zi (r18.tmod 12)) (by kernel_rfl) ⟨_, ⟨rfl, rfl⟩, hs24⟩
 have h9p : ¬ (r4 = true) := ne_true_of_eq_false (bnot_true h9)
 replace hm := ite_no hm h9p
 refine W.sr fun K25 hK25 => ?_
 refine zE 1 (hK25 _ _ ?_)
 refine W.ret (ret_seq ?_)
 obtain rfl := some_inj hm
 refine ret_of (zi 0) (by kernel_rfl) ⟨_, ⟨rfl, rfl⟩, hs8⟩
end Go.Proofs.YtmmclabkkigiaaaGreat

set_option maxRecDepth 20000
set_option maxHeartbeats 1000000
namespace Go.Proofs.YtmmclabkkigiaaaGreat
open Go Go.RowKit
def rmay15_B0 (tx_ : ByteArray) (k15 : Int → Option (Bool)) (p14 : Int) : Option (Bool) :=
 if p14 < (tx_.size : Int) then (need (0 ≤ p14 ∧ p14 < (tx_.size : Int)) <|
if (sbyte tx_ p14) = 0 then (some false) else (need (0 ≤ p14 ∧ p14 < (tx_.size : Int)) <|
if (sbyte tx_ p14) = 47 then (some false) else (need (-9223372036854775808 ≤ (p14 + 1) ∧ (p14 + 1) ≤ 9223372036854775807) <|
k15 (p14 + 1)))) else (some true)
def rmay15_M (tx_ : ByteArray) : Option (Bool) :=
 if (tx_.size : Int) < 1 then (some false) else (if (tx_.size : Int) > 40 then (some false) else (if (tx_.toList == (ByteArray.mk #[46]).toList) = true then (some false) else (if (tx_.toList == (ByteArray.mk #[46, 46]).toList) = true then (some false) else (iter (fun k_ s_ => rmay15_B0 tx_ k_ s_) FUEL 0))))
theorem rmay15_walk {tx_ : ByteArray}  {r : Bool} (B : Nat) (w : World) (hm : rmay15_M tx_ = some r) : Spec Tryz.prog 66 #[(.string tx_)] B w [] (fun v H' => v = .bool r ∧ H' = []) := by
 refine spec_Q Tryz.func66 rfl fun hs => ?_
 unfold rmay15_M at hm
 refine W.sr fun K1 hK1 => ?_
 refine zE 1 (hK1 _ _ ?_)
 refine W.seq fun K2 hK2 => ?_
 refine W.sr fun K3 hK3 => ?_
 refine zR 4 ?_
 rcases Bool.eq_false_or_eq_true (decide ((tx_.size : Int) < 1)) with h4 | h4
 ·
  obtain ⟨h4p, hm⟩ := iY hm h4
  refine zS 7 h4 ?_
  refine zS 6 h4 ?_
  refine zE 12 (hK3 _ _ ?_)
  refine W.cond_true true (by kernel_rfl) rfl ?_
  refine W.sr fun K5 hK5 => ?_
  refine zE 1 (hK5 _ _ ?_)
  refine W.ret (ret_seq ?_)
  obtain rfl := some_inj hm
  refine ret_of (.bool false) (by kernel_rfl) ⟨_, ⟨rfl, rfl⟩, hs⟩
 obtain ⟨h4p, hm⟩ := iN hm h4
 refine zS 7 h4 ?_
 refine zS 6 h4 ?_
 refine zR 5 ?_
 rcases Bool.eq_false_or_eq_true (decide ((tx_.size : Int) > 40)) with h6 | h6
 ·
  obtain ⟨h6p, hm⟩ := iY hm h6
  refine zS 12 h6 ?_
  refine zS 10 h6 ?_
  refine zS 11 h6 ?_
  refine zE 7 (hK3 _ _ ?_)
  refine W.cond_true true (by kernel_rfl) rfl ?_
  refine W.sr fun K7 hK7 => ?_
  refine zE 1 (hK7 _ _ ?_)
  refine W.ret (ret_seq ?_)
  obtain rfl := some_inj hm
  refine ret_of (.bool false) (by kernel_rfl) ⟨_, ⟨rfl, rfl⟩, hs⟩
 obtain ⟨h6p, hm⟩ := iN hm h6
 refine zS 12 h6 ?_
 refine zS 10 h6 ?_
 refine zS 11 h6 ?_
 refine zR 4 ?_
 rcases Bool.eq_false_or_eq_true (tx_.toList == (ByteArray.mk #[46]).toList) with h8 | h8
 ·
  have h8p : (tx_.toList == (ByteArray.mk #[46]).toList) = true := h8
  replace hm := ite_yes hm h8p
  refine zS 16 h8 ?_
  refine zS 14 h8 ?_
  refine zS 15 h8 ?_
  refine zE 3 (hK3 _ _ ?_)
  refine W.cond_true true (by kernel_rfl) rfl ?_
  refine W.sr fun K9 hK9 => ?_
  refine zE 1 (hK9 _ _ ?_)
  refine W.ret (ret_seq ?_)
  obtain rfl := some_inj hm
  refine ret_of (.bool false) (by kernel_rfl) ⟨_, ⟨rfl, rfl⟩, hs⟩
 have h8p : ¬ ((tx_.toList == (ByteArray.mk #[46]).toList) = true) := ne_true_of_eq_false h8
 replace hm := ite_no hm h8p
 refine zS 16 h8 ?_
 refine zS 14 h8 ?_
 refine zS 15 h8 ?_
 refine zE 3 (hK3 _ _ ?_)
 refine W.cond (tx_.toList == (ByteArray.mk #[46, 46]).toList) (by kernel_rfl) (fun h10 => ?_) (fun h10 => ?_)
 ·
  have h10p : (tx_.toList == (ByteArray.mk #[46, 46]).toList) = true := h10
  replace hm := ite_yes hm h10p
  refine W.sr fun K11 hK11 => ?_
  refine zE 1 (hK11 _ _ ?_)
  refine W.ret (ret_seq ?_)
  obtain rfl := some_inj hm
  refine ret_of (.bool false) (by kernel_rfl) ⟨_, ⟨rfl, rfl⟩, hs⟩
 have h10p : ¬ ((tx_.toList == (ByteArray.mk #[46, 46]).toList) = true) := ne_true_of_eq_false h10
 replace hm := ite_no hm h10p
 refine W.skip ?_
 refine hK2 _ _ ?_
 refine W.seq fun K12 hK12 => ?_
 refine W.sr fun K13 hK13 => ?_
 refine zE 1 (hK13 _ _ ?_)
 refine W.block ?_
 refine W.loop_iter (G := Int) (σ := Int) (fun | p14 => p14) (fun | p14, s_, w_ => (∃ us, s_ = slots 36 [(0, (.string tx_)), (3, (zi p14))] us) ∧ St B w [] w_ []) 0 ⟨slots_intro _ (by kernel_rfl), hs⟩ hm ?_
 rintro k15 ih16 p14 _ w17 ⟨⟨us, rfl⟩, hs18⟩ hm
 replace hm : rmay15_B0 tx_ k15 p14 = some r := hm
 unfold rmay15_B0 at hm
 refine W.seq fun K19 hK19 => ?_
 refine W.sr fun K20 hK20 => ?_
 refine zE 4 (hK20 _ _ ?_)
 refine W.cond (decide (p14 < (tx_.size : Int))) (by kernel_rfl) (fun h21 => ?_) (fun h21 => ?_)
 ·
  obtain ⟨h21p, hm⟩ := iY hm h21
  refine W.skip ?_
  refine hK19 _ _ ?_
  refine W.seq fun K22 hK22 => ?_
  refine W.block ?_
  refine W.sr fun K23 hK23 => ?_
  refine zR 2 ?_
  obtain ⟨h24, hm⟩ := need_some hm
  refine ops_R (v := (.int .u8 (sbyte tx_ p14))) (runs_strIdx (b := tx_) (k := p14) h24 (by kernel_rfl)) ?_
  refine zR 2 ?_
  rcases Bool.eq_false_or_eq_true (decide ((sbyte tx_ p14) = 0)) with h25 | h25
  ·
   obtain ⟨h25p, hm⟩ := iY hm h25
   refine zS 30 h25 ?_
   refine zS 29 h25 ?_
   refine zE 5 (hK23 _ _ ?_)
   refine W.cond_true true (by kernel_rfl) rfl ?_
   refine W.sr fun K26 hK26 => ?_
   refine zE 1 (hK26 _ _ ?_)
   refine W.ret (ret_block (ret_seq (ret_seq (ret_block (ret_seq ?_)))))
   obtain rfl := some_inj hm
   refine ret_of (.bool false) (by kernel_rfl) ⟨_, ⟨rfl, rfl⟩, hs18⟩
  obtain ⟨h25p, hm⟩ := iN hm h25
  refine zS 30 h25 ?_
  refine zS 29 h25 ?_
  refine zR 2 ?_
  obtain ⟨h27, hm⟩ := need_some hm
  refine ops_R (v := (.int .u8 (sbyte tx_ p14))) (runs_strIdx (b := tx_) (k := p14) h27 (by kernel_rfl)) ?_
  refine zE 2 (hK23 _ _ ?_)
  refine W.cond (decide ((sbyte tx_ p14) = 47)) (by kernel_rfl) (fun h28 => ?_) (fun h28 => ?_)
  ·
   obtain ⟨h28p, hm⟩ := iY hm h28
   refine W.sr fun K29 hK29 => ?_
   refine zE 1 (hK29 _ _ ?_)
   refine W.ret (ret_block (ret_seq (ret_seq (ret_block (ret_seq ?_)))))
   obtain rfl := some_inj hm
   refine ret_of (.bool false) (by kernel_rfl) ⟨_, ⟨rfl, rfl⟩, hs18⟩
  obtain ⟨h28p, hm⟩ := iN hm h28
  refine W.skip ?_
  refine normal_block ?_
  refine hK22 _ _ ?_
  refine W.region ?_
  refine zR 1 ?_
  obtain ⟨h30, hm⟩ := need_some hm
  refine zI _ (wrap_i64 h30.1 h30.2) ?_
  refine zE 1 ?_
  refine loopAt_next ?_
  exact ih16 (p14 + 1) _ _ ⟨slots_intro _ (by kernel_rfl), hs18⟩ hm
 obtain ⟨h21p, hm⟩ := iN hm h21
 refine W.exit (exit_seq (exit_seq (exit_here ?_)))
 refine hK12 _ _ ?_
 refine W.sr fun K31 hK31 => ?_
 refine zE 1 (hK31 _ _ ?_)
 refine W.ret ?_
 obtain rfl := some_inj hm
 refine ret_of (.bool true) (by kernel_rfl) ⟨_, ⟨rfl, rfl⟩, hs18⟩
end Go.Proofs.YtmmclabkkigiaaaGreat

namespace Go.Proofs.YtmmclabkkigiaaaGreat
open Go Go.RowKit
theorem Ok.got15 {α ρ : Type} {R : ρ → Prop} {x : Option α} {y : α} {f : α → Option ρ} (h : x = Option.some y) (hf : Ok R (f y)) : Ok R (x.bind f) := by
  rw [h]; exact hf
theorem rounds_ok {σ ρ : Type} {R : ρ → Prop} {body : Nat → (σ → Option ρ) → σ → Option ρ} {done : σ → Option ρ} (I : Nat → σ → Prop) (n : Nat)
    (step : ∀ (k : Nat) (c : σ → Option ρ) (s : σ), k < n → I k s → (∀ s', I (k + 1) s' → Ok R (c s')) → Ok R (body k c s)) (fin : ∀ s, I n s → Ok R (done s)) :
    ∀ (t k : Nat) (s : σ), k + t = n → I k s → Ok R (rounds body done t k s)
  | 0, k, s, h, hI => by
    obtain rfl : k = n := by omega
    exact fin s hI
  | t + 1, k, s, h, hI => step k _ s (by omega) hI fun s' hI' => rounds_ok I n step fin t (k + 1) s' (by omega) hI'
theorem toList_iff {a b : ByteArray} : (a.toList == b.toList) = true ↔ a = b := by
  rw [ByteArray.toList_eq, ByteArray.toList_eq, beq_iff_eq]
  constructor
  · intro h
    cases a; cases b
    congr 1
    exact Array.toList_inj.1 h
  · rintro rfl; rfl
def mayB (s : ByteArray) : Bool := decide (1 ≤ s.size ∧ s.size ≤ 40 ∧ badB s = false ∧ s ≠ ByteArray.mk #[46] ∧ s ≠ ByteArray.mk #[46, 46])
theorem emay_eq (s : ByteArray) : emay_M s = some (mayB s) := by
  unfold emay_M mayB
  by_cases h1 : (s.size : Int) ≥ 1
  · rw [if_pos h1]
    by_cases h2 : (s.size : Int) ≤ 40
    · rw [if_pos h2]
      refine need_of (by omega) ?_
      cases hb : badB s with
      | true => rw [if_pos rfl, decide_eq_false (by simp)]
      | false =>
        rw [if_neg (by decide)]
        by_cases h3 : s = ByteArray.mk #[46]
        · rw [if_pos (toList_iff.2 h3), decide_eq_false fun q => q.2.2.2.1 h3]
        · rw [if_neg fun q => h3 (toList_iff.1 q)]
          congr 1
          by_cases h4 : s = ByteArray.mk #[46, 46]
          · rw [decide_eq_false fun q => q.2.2.2.2 h4, toList_iff.2 h4]
            rfl
          · rw [decide_eq_true ⟨by omega, by omega, rfl, h3, h4⟩]
            have : (s.toList == (ByteArray.mk #[46, 46]).toList) = false := by
              cases hq : (s.toList == (ByteArray.mk #[46, 46]).toList) with
              | false => rfl
              | true => exact absurd (toList_iff.1 hq) h4
            rw [this]
            rfl
    · rw [if_neg h2, decide_eq_false fun q => h2 (by omega)]
  · rw [if_neg h1, decide_eq_false fun q => h1 (by omega)]
theorem mayB_iff {s : ByteArray} : mayB s = true ↔ 1 ≤ s.size ∧ s.size ≤ 40 ∧ badB s = false ∧ s ≠ ByteArray.mk #[46] ∧ s ≠ ByteArray.mk #[46, 46] := by
  unfold mayB
  exact decide_eq_true_iff
theorem sbyte_nums (s : ByteArray) {k : Int} (h : 0 ≤ k ∧ k < (s.size : Int)) : sbyte s k = (strNums s).getD k.toNat 0 := by
  have hk : k.toNat < s.size := by omega
  unfold sbyte strNums
  rw [getElem?_pos s k.toNat hk, Option.getD_some]
  have hk2 : k.toNat < s.data.size := hk
  simp only [List.getD_eq_getElem?_getD, List.getElem?_map, Array.getElem?_toList]
  rw [Array.getElem?_eq_getElem hk2]
  rfl
theorem rmay15_eqP (s : ByteArray) : rmay15_M s = some (mayB s) := by
  unfold rmay15_M
  by_cases h1 : (s.size : Int) < 1
  · rw [if_pos h1]
    unfold mayB
    rw [decide_eq_false fun q => by omega]
  rw [if_neg h1]
  by_cases h2 : (s.size : Int) > 40
  · rw [if_pos h2]
    unfold mayB
    rw [decide_eq_false fun q => by omega]
  rw [if_neg h2]
  by_cases h3 : s = ByteArray.mk #[46]
  · rw [if_pos (toList_iff.2 h3)]
    unfold mayB
    rw [decide_eq_false fun q => q.2.2.2.1 h3]
  rw [if_neg fun q => h3 (toList_iff.1 q)]
  by_cases h4 : s = ByteArray.mk #[46, 46]
  · rw [if_pos (toList_iff.2 h4)]
    unfold mayB
    rw [decide_eq_false fun q => q.2.2.2.2 h4]
  rw [if_neg fun q => h4 (toList_iff.1 q)]
  have e : mayB s = !badB s := by
    cases hb : badB s with
    | true => unfold mayB; rw [decide_eq_false fun q => by rw [q.2.2.1] at hb; cases hb]; rfl
    | false => unfold mayB; rw [decide_eq_true ⟨by omega, by omega, hb, h3, h4⟩]; rfl
  rw [e]
  refine iter_run (fun p : Int => 0 ≤ p ∧ p ≤ (s.size : Int) ∧ ∀ j : Nat, j < p.toNat → ¬ ((strNums s).getD j 0 = 47 ∨ (strNums s).getD j 0 = 0)) (fun p => ((s.size : Int) - p).toNat) ?_ _ _ ⟨by omega, by omega, fun j hj => absurd hj (Nat.not_lt_zero _)⟩ (fuel_lt (by omega))
  rintro k p ⟨h5, h6, h7⟩ ih
  unfold rmay15_B0
  by_cases hp : p < (s.size : Int)
  · rw [if_pos hp]
    refine need_of (by omega) ?_
    rw [sbyte_nums s ⟨h5, hp⟩]
    have bad : (strNums s).getD p.toNat 0 = 47 ∨ (strNums s).getD p.toNat 0 = 0 → badB s = true := fun q => badB_iff.2 ⟨p.toNat, by omega, q⟩
    by_cases h0 : (strNums s).getD p.toNat 0 = 0
    · rw [if_pos h0, bad (.inr h0)]; rfl
    rw [if_neg h0]
    refine need_of (by omega) ?_
    by_cases h47 : (strNums s).getD p.toNat 0 = 47
    · rw [if_pos h47, bad (.inl h47)]; rfl
    rw [if_neg h47]
    refine need_of (by omega) (ih _ ⟨by omega, by omega, fun j hj => ?_⟩ (by omega))
    by_cases ej : j = p.toNat
    · rw [ej]; exact fun q => q.elim h47 h0
    · exact h7 j (by omega)
  · rw [if_neg hp]
    cases hb : badB s with
    | false => rfl
    | true =>
      obtain ⟨j, hj, hc⟩ := badB_iff.1 hb
      exact absurd hc (h7 j (by omega))
end Go.Proofs.YtmmclabkkigiaaaGreat

namespace Go.Proofs.YtmmclabkkigiaaaGreat
open Go Go.RowKit
theorem num_range (s : ByteArray) (j : Nat) : 0 ≤ (strNums s).getD j 0 ∧ (strNums s).getD j 0 ≤ 255 := by
  unfold strNums
  simp only [List.getD, List.getElem?_map]
  cases s.data.toList[j]? with
  | none => simp
  | some b =>
    have := b.toNat_lt
    simp only [Option.map_some, Option.getD_some]
    omega
theorem opack_any (s : ByteArray) (hs : s.size ≤ 1000) : Ok (fun ws : List Int => ws.length = (s.size + 7) / 8) (opack_M s) := by
  unfold opack_M
  refine Ok.need (by omega) ?_
  refine rounds_ok (fun k (q : List Int) => q.length = k) ((s.size + 7) / 8) (fun k c q hk hq ih => ?_) (fun q hq => Ok.some hq) _ _ _ (by omega) rfl
  unfold opack_R27
  refine rounds_ok (fun _ _ => True) (partN s.size k) (fun k2 c2 p hk2 _ ih2 => ?_) (fun p _ => ?_) _ _ _ (by omega) trivial
  · unfold opack_R108
    refine Ok.name fun z hz => Ok.need ?_ (ih2 _ trivial)
    have e : ((strNums s).drop (8 * k)).getD (partN s.size k - 1 - k2) 0 = (strNums s).getD (8 * k + (partN s.size k - 1 - k2)) 0 := by
      simp only [List.getD, List.getElem?_drop]
    have := num_range s (8 * k + (partN s.size k - 1 - k2))
    omega
  · unfold opack_D108 opack_J3
    exact Ok.need (by omega) (ih _ (by rw [List.length_append, hq]; rfl))
theorem sumof_any (ws : List Int) (hs : ws.length ≤ 1000) : Ok (fun r => 0 ≤ r ∧ r ≤ 18446744073709551615) (sumof_M ws) := by
  unfold sumof_M
  refine Ok.need (by omega) ?_
  refine rounds_ok (fun _ (r : Int) => 0 ≤ r ∧ r ≤ 18446744073709551615) ws.length (fun k c r hk hr ih => ?_) (fun r hr => ?_) _ _ _ (by omega) (by omega)
  · unfold sumof_R29 sumadd_M
    exact ih _ (by omega)
  · unfold sumof_D29 sumnow_M
    exact Ok.some hr
theorem ebegin_any (s : ByteArray) : (mayB s = false ∧ ebegin_M s = some 0) ∨ (mayB s = true ∧ ∃ ws r, opack_M s = some ws ∧ sumof_M ws = some r ∧ (0 ≤ r ∧ r ≤ 18446744073709551615) ∧ ebegin_M s = some (r % 12)) := by
  cases hm : mayB s with
  | false =>
    refine .inl ⟨rfl, ?_⟩
    unfold ebegin_M
    refine bind_of (emay_eq s) ?_
    rw [hm]
    rfl
  | true =>
    refine .inr ⟨rfl, ?_⟩
    have h1 := mayB_iff.1 hm
    obtain ⟨ws, e1, e2⟩ := opack_any s (by omega)
    obtain ⟨r, e3, e4⟩ := sumof_any ws (by omega)
    have et : r.tmod 12 = r % 12 := Int.tmod_eq_emod_of_nonneg e4.1
    refine ⟨ws, r, e1, e3, e4, ?_⟩
    unfold ebegin_M
    refine bind_of (emay_eq s) ?_
    rw [hm, if_pos rfl]
    refine bind_of e1 (bind_of e3 ?_)
    rw [et]
    exact need_of (by omega) rfl
end Go.Proofs.YtmmclabkkigiaaaGreat

namespace Go.Proofs.YtmmclabkkigiaaaGreat
open Go Go.RowKit
def bytesF (ws : List Int) (n : Nat) : List Int := (List.range n).map fun (j : Nat) => shrK .u64 (ws.getD (j / 8) 0) (8 * ((j % 8 : Nat) : Int)) % 256
theorem bytesF_succ (ws : List Int) (n : Nat) : bytesF ws (n + 1) = bytesF ws n ++ [shrK .u64 (ws.getD (n / 8) 0) (8 * ((n % 8 : Nat) : Int)) % 256] := by
  unfold bytesF
  rw [List.range_succ, List.map_append]
  rfl
theorem bytesF_len (ws : List Int) (n : Nat) : (bytesF ws n).length = n := by unfold bytesF; simp
theorem quo8 {p : Int} (h : 0 ≤ p) : p.tdiv 8 = p / 8 := Int.tdiv_eq_ediv_of_nonneg h
theorem rem8 {p : Int} (h : 0 ≤ p) : p.tmod 8 = p % 8 := Int.tmod_eq_emod_of_nonneg h
theorem unpack_eq {ws : List Int} {n : Int} (h0 : 0 ≤ n) (hn : n ≤ 8 * (ws.length : Int)) (hl : ws.length ≤ 1000) : unpack_M ws n = some (strOfNums (bytesF ws n.toNat), 0) := by
  unfold unpack_M
  rw [if_neg (by omega), need, if_pos (by omega), if_neg (by omega), need, if_pos (by omega)]
  refine iter_run (fun s => 0 ≤ s.2 ∧ s.2 ≤ n ∧ s.1.length = n.toNat ∧ s.1.take s.2.toNat = bytesF ws s.2.toNat) (fun s => (n - s.2).toNat) ?_ _ _ ⟨by simp, by simp; omega, by simp, rfl⟩ (fuel_lt (by simp only; omega))
  rintro k ⟨q, p⟩ ⟨h1, h2, h3, h4⟩ ih
  simp only at h1 h2 h3 h4 ih
  unfold unpack_B0
  simp only
  by_cases h : p < n
  · rw [if_pos (by omega), quo8 h1, rem8 h1]
    refine need_of (by omega) (need_of (by omega) (need_of (by omega) (need_of (by omega) (need_of (by omega) (need_of (by omega) (need_of (by omega) (ih _ ⟨by simp only; omega, by simp only; omega, by simp only [List.length_set]; exact h3, ?_⟩ (by simp only; omega))))))))
    simp only
    rw [show (p + 1).toNat = p.toNat + 1 by omega, bytesF_succ, ← h4, show (p / 8).toNat = p.toNat / 8 by omega, show ((p.toNat % 8 : Nat) : Int) = p % 8 by omega]
    have hlt : p.toNat < q.length := by omega
    rw [List.take_add_one, List.take_set_of_le (Nat.le_refl _)]
    simp [hlt]
  · rw [if_neg (by omega)]
    refine need_of (by omega) ?_
    have e : p = n := by omega
    subst e
    rw [List.take_of_length_le (by omega)] at h4
    rw [h4]
def valB : List Int → Int
  | [] => 0
  | b :: bs => b + 256 * valB bs
def Byt (xs : List Int) : Prop := ∀ x ∈ xs, 0 ≤ x ∧ x < 256
theorem Byt.nil : Byt [] := by intro x hx; simp at hx
theorem Byt.cons {x : Int} {xs : List Int} (h : Byt (x :: xs)) : (0 ≤ x ∧ x < 256) ∧ Byt xs := ⟨h x (by simp), fun y hy => h y (by simp [hy])⟩
theorem Byt.drop {xs : List Int} (h : Byt xs) (n : Nat) : Byt (xs.drop n) := fun x hx => h x (List.mem_of_mem_drop hx)
theorem Byt.take {xs : List Int} (h : Byt xs) (n : Nat) : Byt (xs.take n) := fun x hx => h x (List.mem_of_mem_take hx)
theorem byt_str (s : ByteArray) : Byt (strNums s) := by
  intro x hx
  unfold strNums at hx
  obtain ⟨b, _, rfl⟩ := List.mem_map.1 hx
  have := b.toNat_lt
  omega
theorem Byt.getD {xs : List Int} (h : Byt xs) (k : Nat) : 0 ≤ xs.getD k 0 ∧ xs.getD k 0 < 256 := by
  rw [List.getD_eq_getElem?_getD]
  rcases Nat.lt_or_ge k xs.length with hk | hk
  · rw [List.getElem?_eq_getElem hk]; exact h _ (List.getElem_mem hk)
  · rw [List.getElem?_eq_none hk]; simp
theorem valB_range : ∀ {xs : List Int}, Byt xs → 0 ≤ valB xs ∧ valB xs < 256 ^ xs.length
  | [], _ => by simp [valB]
  | x :: xs, h => by
    have h1 := h.cons.1
    have h2 := valB_range h.cons.2
    simp only [valB, List.length_cons, Int.pow_succ]
    omega
theorem pow256 {n : Nat} (h : n ≤ 8) : (256 : Int) ^ n ≤ 18446744073709551616 := by
  have : n = 0 ∨ n = 1 ∨ n = 2 ∨ n = 3 ∨ n = 4 ∨ n = 5 ∨ n = 6 ∨ n = 7 ∨ n = 8 := by omega
  rcases this with rfl | rfl | rfl | rfl | rfl | rfl | rfl | rfl | rfl <;> decide
theorem valB_u64 {xs : List Int} (h : Byt xs) (hl : xs.length ≤ 8) : U64 (valB xs) := by
  have := valB_range h
  have := pow256 hl
  unfold U64; omega
theorem valB_snoc : ∀ (xs : List Int) (b : Int), valB (xs ++ [b]) = valB xs + b * 256 ^ xs.length
  | [], b => by simp [valB]
  | x :: xs, b => by
    simp only [List.cons_append, valB, valB_snoc xs b, List.length_cons, Int.pow_succ]
    rw [Int.mul_add, ← Int.mul_assoc, Int.mul_comm 256 b, Int.mul_assoc b 256, Int.mul_comm 256 (256 ^ xs.length)]
    omega
theorem pow8 {j : Nat} (h : j < 8) : (2 : Int) ^ (min (8 * (j : Int)).toNat 64) = 256 ^ j := by
  have : j = 0 ∨ j = 1 ∨ j = 2 ∨ j = 3 ∨ j = 4 ∨ j = 5 ∨ j = 6 ∨ j = 7 := by omega
  rcases this with rfl | rfl | rfl | rfl | rfl | rfl | rfl | rfl <;> decide
theorem shl_bytes {b : Int} {j : Nat} (hb : 0 ≤ b ∧ b < 256) (h : j < 8) : shlK .u64 b (8 * (j : Int)) = b * 256 ^ j := by
  unfold shlK
  show IntKind.u64.wrap (b * 2 ^ (min (8 * (j : Int)).toNat 64)) = _
  rw [pow8 h]
  have : j = 0 ∨ j = 1 ∨ j = 2 ∨ j = 3 ∨ j = 4 ∨ j = 5 ∨ j = 6 ∨ j = 7 := by omega
  rcases this with rfl | rfl | rfl | rfl | rfl | rfl | rfl | rfl <;> exact wrap_u64 (by omega) (by omega)
def packF (s : ByteArray) : List Int := (List.range ((s.size + 7) / 8)).map fun (q : Nat) => valB (((strNums s).drop (8 * q)).take 8)
theorem packF_len (s : ByteArray) : (packF s).length = (s.size + 7) / 8 := by unfold packF; simp
theorem packF_get (s : ByteArray) {q : Nat} (h : q < (s.size + 7) / 8) : (packF s).getD q 0 = valB (((strNums s).drop (8 * q)).take 8) := by
  unfold packF
  simp [List.getD, h]
theorem packF_u64 (s : ByteArray) : ∀ x ∈ packF s, U64 x := by
  intro x hx
  unfold packF at hx
  obtain ⟨q, _, rfl⟩ := List.mem_map.1 hx
  exact valB_u64 (((byt_str s).drop _).take _) (by simp; omega)
variable {img : List Int} {l : List (Int × Int)}
theorem or_byte {n b : Int} (hn : 0 ≤ n ∧ n < 72057594037927936) (hb : 0 ≤ b ∧ b < 256) : bits .or .u64 (shlK .u64 n 8) b = b + 256 * n := by
  have e : shlK .u64 n 8 = 256 * n := by
    unfold shlK
    show IntKind.u64.wrap (n * 2 ^ (min (8 : Int).toNat 64)) = _
    rw [show (2 : Int) ^ (min (8 : Int).toNat 64) = 256 by decide, wrap_u64 (by omega) (by omega)]
    omega
  rw [e]
  have hx : U64 (256 * n) := by unfold U64; omega
  have hy : U64 b := by unfold U64; omega
  refine bitI_ext (bits_u64 hx hy) (by unfold U64; omega) fun j _ => ?_
  rw [bitI_or hx hy]
  unfold bitI
  obtain ⟨a, rfl⟩ := Int.eq_ofNat_of_zero_le hn.1
  obtain ⟨c, rfl⟩ := Int.eq_ofNat_of_zero_le hb.1
  rw [show (256 * (a : Int)).toNat = a <<< 8 by rw [Nat.shiftLeft_eq]; omega, show ((c : Int) + 256 * (a : Int)).toNat = a <<< 8 + c by rw [Nat.shiftLeft_eq]; omega,
    Nat.shiftLeft_add_eq_or_of_lt (show c < 2 ^ 8 by omega), Nat.testBit_or, Int.toNat_natCast]
theorem opack_eq {s : ByteArray} (hs : s.size ≤ 1000000) : opack_M s = some (packF s) := by
  unfold opack_M
  refine need_of hs ?_
  have hlen := strNums_len s
  have inner : ∀ (k : Nat) (c : List Int → Option (List Int)) (q : List Int), 8 * k < s.size → ∀ (m j : Nat), j + m = partN s.size k →
      rounds (fun k_ c_ s_ => opack_R108 s k k_ c_ s_) (fun s_ => opack_D108 c q s_) m j (valB ((((strNums s).drop (8 * k)).take (partN s.size k)).drop (partN s.size k - j))) =
      opack_D108 c q (valB (((strNums s).drop (8 * k)).take (partN s.size k))) := by
    intro k c q hk m
    have hp := part_pos hk
    have hb : Byt (((strNums s).drop (8 * k)).take (partN s.size k)) := ((byt_str s).drop _).take _
    have hl : (((strNums s).drop (8 * k)).take (partN s.size k)).length = partN s.size k := by simp only [List.length_take, List.length_drop, hlen]; omega
    induction m with
    | zero =>
      intro j hj
      rw [show partN s.size k - j = 0 by omega, List.drop_zero]
      rfl
    | succ m ih =>
      intro j hj
      show opack_R108 s k j _ _ = _
      unfold opack_R108
      simp only [Option.bind]
      have e1 : ((strNums s).drop (8 * k)).getD (partN s.size k - 1 - j) 0 = (((strNums s).drop (8 * k)).take (partN s.size k)).getD (partN s.size k - 1 - j) 0 := by
        simp only [List.getD_eq_getElem?_getD, List.getElem?_take]
        rw [if_pos (by omega)]
      rw [e1]
      generalize hX : ((strNums s).drop (8 * k)).take (partN s.size k) = X at *
      have hg := hb.getD (partN s.size k - 1 - j)
      refine need_of (by omega) ?_
      have hr := valB_range (hb.drop (partN s.size k - j))
      have hlt : (X.drop (partN s.size k - j)).length = j := by rw [List.length_drop]; omega
      rw [hlt] at hr
      have h7 : (256 : Int) ^ j ≤ 72057594037927936 := by
        have : j = 0 ∨ j = 1 ∨ j = 2 ∨ j = 3 ∨ j = 4 ∨ j = 5 ∨ j = 6 ∨ j = 7 := by omega
        rcases this with rfl | rfl | rfl | rfl | rfl | rfl | rfl | rfl <;> decide
      rw [or_byte (by omega) hg]
      have e2 : X.drop (partN s.size k - (j + 1)) = X.getD (partN s.size k - 1 - j) 0 :: X.drop (partN s.size k - j) := by
        have hlt2 : partN s.size k - (j + 1) < X.length := by omega
        rw [List.drop_eq_getElem_cons hlt2, show partN s.size k - (j + 1) + 1 = partN s.size k - j by omega, show partN s.size k - 1 - j = partN s.size k - (j + 1) by omega]
        simp [List.getD, hlt2]
      have := ih (j + 1) (by omega)
      rw [e2, valB] at this
      exact this
  have outer : ∀ (m k : Nat), k + m = (s.size + 7) / 8 → rounds (fun k_ c_ s_ => opack_R27 s k_ c_ s_) (fun s_ => opack_D27 s_) m k ((packF s).take k) = some (packF s) := by
    intro m
    have hpl := packF_len s
    induction m with
    | zero =>
      intro k hk
      rw [List.take_of_length_le (by omega)]
      rfl
    | succ m ih =>
      intro k hk
      have h8 : 8 * k < s.size := by omega
      have := inner k (rounds (fun k_ c_ s_ => opack_R27 s k_ c_ s_) (fun s_ => opack_D27 s_) m (k + 1)) ((packF s).take k) h8 (partN s.size k) 0 (by omega)
      rw [Nat.sub_zero, List.drop_of_length_le (by simp only [List.length_take]; omega)] at this
      refine Eq.trans (show _ = opack_D108 (rounds (fun k_ c_ s_ => opack_R27 s k_ c_ s_) (fun s_ => opack_D27 s_) m (k + 1)) ((packF s).take k) (valB (((strNums s).drop (8 * k)).take (partN s.size k))) from this) ?_
      unfold opack_D108 opack_J3
      refine need_of (by simp only [List.length_take]; omega) ?_
      have e : (packF s).take k ++ [valB (((strNums s).drop (8 * k)).take (partN s.size k))] = (packF s).take (k + 1) := by
        rw [take_snoc 0 (by omega), packF_get s (by omega)]
        congr 3
        unfold partN
        split
        · rw [List.take_of_length_le (by simp only [List.length_drop]; omega), List.take_of_length_le (by simp only [List.length_drop]; omega)]
        · rfl
      rw [e]
      exact ih (k + 1) (by omega)
  exact outer _ 0 (by omega)
end Go.Proofs.YtmmclabkkigiaaaGreat
