/- Texts, one behind the other: F5o, A5g, A8k, Sy, Ks, Sz, A8l, Ux, Uq, A8a, A8b, A8c, Ur, F8p, A8h, A8i, A8d, F8o, A8m, A8n, A8s, A8w, P8w, A6m, A8r, Pn, PPa. -/
import Derived.Laws.Concat
import Derived.Shelf.Strings.OnBuilder
import Derived.Test.YtmmclabkkigiaaaProg
import Derived.Test.YtmmclabkkigiaaaQPN2
set_option linter.unusedVariables false
set_option linter.unusedSimpArgs false
set_option maxRecDepth 20000
set_option maxHeartbeats 2000000
namespace Go.Proofs.Ytmmclabkkigiaaa
open Go Go.RowKit
theorem eopen_ok {vb : Nat} {img : List Int} {l : List (Int × Int)} {gw gi gb n_ : Int} (B : Nat) (w : World) (hv : ViewAt (ptr vb) img l w) (hP : (igetM img l gw gi gb n_).2 = 0) (hK : (igetM img l gw gi gb n_).1.k = 2) : Spec Try.prog 60 #[(zp vb), (.agg #[(zi gw), (zi gi), (zi gb)]), (zi n_)] B w [] (fun v H' => ∃ mb, v = (.tuple #[(.agg #[(zp vb), (zi gw), (zi gi), (zi gb), (zp mb)]), (zi 0)]) ∧ H' = [zb mb 138 [(zp vb), (zi gw), (zi gi), (zi gb), (zi n_)]]) := by
 refine spec_Q Try.func60 rfl fun hs => ?_
 refine W.sr fun K1 hK1 => ?_
 refine zN [(zi gw), (zi gi), (zi gb)] 33 hs fun b4 w2 hs3 => ?_
 refine zN [(.pointer none), (zi 0), (zi 0), (zi 0), (.pointer none)] 113 hs3 fun b7 w5 hs6 => ?_
 refine zE 1 (hK1 _ _ ?_)
 refine W.sr fun K8 hK8 => ?_
 refine zR 1 ?_
 refine zG ⟨b4, 0, none⟩ [(zi gw), (zi gi), (zi gb)] (cells_sub (hs6.heapAt 1 rfl) rfl) ?_
 refine zR 1 ?_
 refine zC00 hs6 (ig_spec (gw := gw) (gi := gi) (gb := gb) (n_ := n_) (hv := (viewAt_old hs6 hv)) B _) fun w9 hs11 => ?_
 refine zR 3 ?_
 refine zN [(zu 0), (zu 0), (zu 0), (zu 0), (zu 0), (zu 0), (zu 0), (zu 0), (zu 0), (zu 0)] 61 hs11 fun b14 w12 hs13 => ?_
 refine zT 0 [(zu ((igetM img l gw gi gb n_).1.k)), (zu ((igetM img l gw gi gb n_).1.l)), (zu ((igetM img l gw gi gb n_).1.o)), (zu ((igetM img l gw gi gb n_).1.s)), (zu ((igetM img l gw gi gb n_).1.a)), (zu ((igetM img l gw gi gb n_).1.b)), (zu ((igetM img l gw gi gb n_).1.c)), (zu ((igetM img l gw gi gb n_).1.d)), (zu ((igetM img l gw gi gb n_).1.e)), (zu ((igetM img l gw gi gb n_).1.m))] [(zu ((igetM img l gw gi gb n_).1.k)), (zu ((igetM img l gw gi gb n_).1.l)), (zu ((igetM img l gw gi gb n_).1.o)), (zu ((igetM img l gw gi gb n_).1.s)), (zu ((igetM img l gw gi gb n_).1.a)), (zu ((igetM img l gw gi gb n_).1.b)), (zu ((igetM img l gw gi gb n_).1.c)), (zu ((igetM img l gw gi gb n_).1.d)), (zu ((igetM img l gw gi gb n_).1.e)), (zu ((igetM img l gw gi gb n_).1.m))] hs13 fun w15 hs17 => ?_
 refine zE 1 (hK8 _ _ ?_)
 refine W.seq fun K18 hK18 => ?_
 refine W.sr fun K19 hK19 => ?_
 refine zR 3 ?_
 rcases Bool.eq_false_or_eq_true (decide ((igetM img l gw gi gb n_).2 = 0)) with h20 | h20
 ·
  have h20p := of_decide_eq_true h20
  refine zS 20 h20 ?_
  refine zS 19 h20 ?_
  refine zR 1 ?_
  refine zL ⟨b14, 0, none⟩ (zu ((igetM img l gw gi gb n_).1.k)) (hs17.cellAt 0 rfl rfl) ?_
  refine zE 2 (hK19 _ _ ?_)
  refine W.cond (!decide ((igetM img l gw gi gb n_).1.k = 2)) (by kernel_rfl) (fun h21 => ?_) (fun h21 => ?_)
  ·
   have h21p : ¬ ((igetM img l gw gi gb n_).1.k = 2) := of_decide_eq_false (bnot_true h21)
   refine W.region ?_
   refine zE 1 (hK18 _ _ ?_)
   refine W.seq fun K22 hK22 => ?_
   refine W.sr fun K23 hK23 => ?_
   refine zE 2 (hK23 _ _ ?_)
   refine W.cond_true true (by kernel_rfl) rfl ?_
   refine W.sr fun K24 hK24 => ?_
   refine zR 2 ?_
   have hs27 := St.f1 hs17
   refine zT 0 [(.pointer none), (zi 0), (zi 0), (zi 0), (.pointer none)] [(.pointer none), (zi 0), (zi 0), (zi 0), (.pointer none)] hs27 fun w25 hs28 => ?_
   refine zE 1 (hK24 _ _ ?_)
   refine W.ret (ret_seq ?_)
   exfalso; omega
  have h21p : (igetM img l gw gi gb n_).1.k = 2 := of_decide_eq_true (bnot_false h21)
  refine W.skip ?_
  refine hK18 _ _ ?_
  refine W.seq fun K29 hK29 => ?_
  refine W.sr fun K30 hK30 => ?_
  refine zE 2 (hK30 _ _ ?_)
  refine W.cond (!decide ((igetM img l gw gi gb n_).2 = 0)) (by kernel_rfl) (fun h31 => ?_) (fun h31 => ?_)
  ·
   have h31p : ¬ ((igetM img l gw gi gb n_).2 = 0) := of_decide_eq_false (bnot_true h31)
   refine W.sr fun K32 hK32 => ?_
   refine zR 2 ?_
   have hs35 := St.f1 hs17
   refine zT 0 [(.pointer none), (zi 0), (zi 0), (zi 0), (.pointer none)] [(.pointer none), (zi 0), (zi 0), (zi 0), (.pointer none)] hs35 fun w33 hs36 => ?_
   refine zE 1 (hK32 _ _ ?_)
   refine W.ret (ret_seq ?_)
   exfalso; omega
  have h31p : (igetM img l gw gi gb n_).2 = 0 := of_decide_eq_true (bnot_false h31)
  refine W.skip ?_
  refine hK29 _ _ ?_
  refine W.sr fun K37 hK37 => ?_
  refine zR 1 ?_
  refine zG ⟨b4, 0, none⟩ [(zi gw), (zi gi), (zi gb)] (cells_sub (hs17.heapAt 2 rfl) rfl) ?_
  refine zR 1 ?_
  rcases Bool.eq_false_or_eq_true (decide ((igetM img l gw gi gb n_).2 = 0)) with h38 | h38
  ·
   have h38p := of_decide_eq_true h38
   refine ops_call0 hs17 (by kernel_rfl) (bof_ok (gw := gw) (gi := gi) (gb := gb) (n_ := n_) (hv := (viewAt_old hs17 hv)) (hP := h38p) B _) ?_
   rintro _ _ w40 ⟨b39, rfl, rfl⟩ hs41
   have hs42 := St.ap1 hs41
   refine zE 5 (hK37 _ _ ?_)
   refine W.sr fun K43 hK43 => ?_
   refine zR 1 ?_
   refine zG ⟨b4, 0, none⟩ [(zi gw), (zi gi), (zi gb)] (cells_sub (hs42.heapAt 3 rfl) rfl) ?_
   refine zR 3 ?_
   have hs46 := St.f2 hs42
   refine zT 0 [(zp vb), (zi gw), (zi gi), (zi gb), (zp b39)] [(zp vb), (zi gw), (zi gi), (zi gb), (zp b39)] hs46 fun w44 hs47 => ?_
   refine zE 1 (hK43 _ _ ?_)
   refine W.ret ?_
   have hs48 := St.f1 hs47
   have hs49 := St.tk1 hs48
   refine ret_of (.tuple #[(.agg #[(zp vb), (zi gw), (zi gi), (zi gb), (zp b39)]), (zi 0)]) (resS_of (by kernel_rfl) (resD_two rfl (.agg (ad := ⟨b7, 0, none⟩) (cs := [(zp vb), (zi gw), (zi gi), (zi gb), (zp b39)]) (by kernel_rfl) (by kernel_rfl) (cells_sub (hs47.heapAt 0 rfl) rfl)) (.tmp (by kernel_rfl)))) ⟨_, ⟨b39, rfl, rfl⟩, hs49⟩
  have h38p := of_decide_eq_false h38
  refine zC00 hs17 (bof_err (gw := gw) (gi := gi) (gb := gb) (n_ := n_) (hv := (viewAt_old hs17 hv)) (hN := h38p) B _) fun w50 hs52 => ?_
  refine zE 5 (hK37 _ _ ?_)
  refine W.sr fun K53 hK53 => ?_
  refine zR 1 ?_
  refine zG ⟨b4, 0, none⟩ [(zi gw), (zi gi), (zi gb)] (cells_sub (hs52.heapAt 2 rfl) rfl) ?_
  refine zR 3 ?_
  have hs56 := St.f1 hs52
  refine zT 0 [(zp vb), (zi gw), (zi gi), (zi gb), (.pointer none)] [(zp vb), (zi gw), (zi gi), (zi gb), (.pointer none)] hs56 fun w54 hs57 => ?_
  refine zE 1 (hK53 _ _ ?_)
  refine W.ret ?_
  exfalso; omega
 have h20p := of_decide_eq_false h20
 refine zS 20 h20 ?_
 refine zS 19 h20 ?_
 refine zE 4 (hK19 _ _ ?_)
 refine W.cond_false false (by kernel_rfl) rfl ?_
 refine W.skip ?_
 refine hK18 _ _ ?_
 refine W.seq fun K58 hK58 => ?_
 refine W.sr fun K59 hK59 => ?_
 refine zE 2 (hK59 _ _ ?_)
 refine W.cond (!decide ((igetM img l gw gi gb n_).2 = 0)) (by kernel_rfl) (fun h60 => ?_) (fun h60 => ?_)
 ·
  have h60p : ¬ ((igetM img l gw gi gb n_).2 = 0) := of_decide_eq_false (bnot_true h60)
  refine W.sr fun K61 hK61 => ?_
  refine zR 2 ?_
  have hs64 := St.f1 hs17
  refine zT 0 [(.pointer none), (zi 0), (zi 0), (zi 0), (.pointer none)] [(.pointer none), (zi 0), (zi 0), (zi 0), (.pointer none)] hs64 fun w62 hs65 => ?_
  refine zE 1 (hK61 _ _ ?_)
  refine W.ret (ret_seq ?_)
  exfalso; omega
 have h60p : (igetM img l gw gi gb n_).2 = 0 := of_decide_eq_true (bnot_false h60)
 refine W.skip ?_
 refine hK58 _ _ ?_
 refine W.sr fun K66 hK66 => ?_
 refine zR 1 ?_
 refine zG ⟨b4, 0, none⟩ [(zi gw), (zi gi), (zi gb)] (cells_sub (hs17.heapAt 2 rfl) rfl) ?_
 refine zR 1 ?_
 rcases Bool.eq_false_or_eq_true (decide ((igetM img l gw gi gb n_).2 = 0)) with h67 | h67
 ·
  have h67p := of_decide_eq_true h67
  refine ops_call0 hs17 (by kernel_rfl) (bof_ok (gw := gw) (gi := gi) (gb := gb) (n_ := n_) (hv := (viewAt_old hs17 hv)) (hP := h67p) B _) ?_
  rintro _ _ w69 ⟨b68, rfl, rfl⟩ hs70
  have hs71 := St.ap1 hs70
  refine zE 5 (hK66 _ _ ?_)
  refine W.sr fun K72 hK72 => ?_
  refine zR 1 ?_
  refine zG ⟨b4, 0, none⟩ [(zi gw), (zi gi), (zi gb)] (cells_sub (hs71.heapAt 3 rfl) rfl) ?_
  refine zR 3 ?_
  have hs75 := St.f2 hs71
  refine zT 0 [(zp vb), (zi gw), (zi gi), (zi gb), (zp b68)] [(zp vb), (zi gw), (zi gi), (zi gb), (zp b68)] hs75 fun w73 hs76 => ?_
  refine zE 1 (hK72 _ _ ?_)
  refine W.ret ?_
  have hs77 := St.f1 hs76
  have hs78 := St.tk1 hs77
  refine ret_of (.tuple #[(.agg #[(zp vb), (zi gw), (zi gi), (zi gb), (zp b68)]), (zi 0)]) (resS_of (by kernel_rfl) (resD_two rfl (.agg (ad := ⟨b7, 0, none⟩) (cs := [(zp vb), (zi gw), (zi gi), (zi gb), (zp b68)]) (by kernel_rfl) (by kernel_rfl) (cells_sub (hs76.heapAt 0 rfl) rfl)) (.tmp (by kernel_rfl)))) ⟨_, ⟨b68, rfl, rfl⟩, hs78⟩
 have h67p := of_decide_eq_false h67
 refine zC00 hs17 (bof_err (gw := gw) (gi := gi) (gb := gb) (n_ := n_) (hv := (viewAt_old hs17 hv)) (hN := h67p) B _) fun w79 hs81 => ?_
 refine zE 5 (hK66 _ _ ?_)
 refine W.sr fun K82 hK82 => ?_
 refine zR 1 ?_
 refine zG ⟨b4, 0, none⟩ [(zi gw), (zi gi), (zi gb)] (cells_sub (hs81.heapAt 2 rfl) rfl) ?_
 refine zR 3 ?_
 have hs85 := St.f1 hs81
 refine zT 0 [(zp vb), (zi gw), (zi gi), (zi gb), (.pointer none)] [(zp vb), (zi gw), (zi gi), (zi gb), (.pointer none)] hs85 fun w83 hs86 => ?_
 refine zE 1 (hK82 _ _ ?_)
 refine W.ret ?_
 exfalso; omega
theorem eopen_dir {vb : Nat} {img : List Int} {l : List (Int × Int)} {gw gi gb n_ : Int} (B : Nat) (w : World) (hv : ViewAt (ptr vb) img l w) (hP : (igetM img l gw gi gb n_).2 = 0) (hK : ¬ ((igetM img l gw gi gb n_).1.k = 2)) : Spec Try.prog 60 #[(zp vb), (.agg #[(zi gw), (zi gi), (zi gb)]), (zi n_)] B w [] (fun v H' => v = (.tuple #[(.agg #[(.pointer none), (zi 0), (zi 0), (zi 0), (.pointer none)]), (zi 10)]) ∧ H' = []) := by
 refine spec_Q Try.func60 rfl fun hs => ?_
 refine W.sr fun K1 hK1 => ?_
 refine zN [(zi gw), (zi gi), (zi gb)] 33 hs fun b4 w2 hs3 => ?_
 refine zN [(.pointer none), (zi 0), (zi 0), (zi 0), (.pointer none)] 113 hs3 fun b7 w5 hs6 => ?_
 refine zE 1 (hK1 _ _ ?_)
 refine W.sr fun K8 hK8 => ?_
 refine zR 1 ?_
 refine zG ⟨b4, 0, none⟩ [(zi gw), (zi gi), (zi gb)] (cells_sub (hs6.heapAt 1 rfl) rfl) ?_
 refine zR 1 ?_
 refine zC00 hs6 (ig_spec (gw := gw) (gi := gi) (gb := gb) (n_ := n_) (hv := (viewAt_old hs6 hv)) B _) fun w9 hs11 => ?_
 refine zR 3 ?_
 refine zN [(zu 0), (zu 0), (zu 0), (zu 0), (zu 0), (zu 0), (zu 0), (zu 0), (zu 0), (zu 0)] 61 hs11 fun b14 w12 hs13 => ?_
 refine zT 0 [(zu ((igetM img l gw gi gb n_).1.k)), (zu ((igetM img l gw gi gb n_).1.l)), (zu ((igetM img l gw gi gb n_).1.o)), (zu ((igetM img l gw gi gb n_).1.s)), (zu ((igetM img l gw gi gb n_).1.a)), (zu ((igetM img l gw gi gb n_).1.b)), (zu ((igetM img l gw gi gb n_).1.c)), (zu ((igetM img l gw gi gb n_).1.d)), (zu ((igetM img l gw gi gb n_).1.e)), (zu ((igetM img l gw gi gb n_).1.m))] [(zu ((igetM img l gw gi gb n_).1.k)), (zu ((igetM img l gw gi gb n_).1.l)), (zu ((igetM img l gw gi gb n_).1.o)), (zu ((igetM img l gw gi gb n_).1.s)), (zu ((igetM img l gw gi gb n_).1.a)), (zu ((igetM img l gw gi gb n_).1.b)), (zu ((igetM img l gw gi gb n_).1.c)), (zu ((igetM img l gw gi gb n_).1.d)), (zu ((igetM img l gw gi gb n_).1.e)), (zu ((igetM img l gw gi gb n_).1.m))] hs13 fun w15 hs17 => ?_
 refine zE 1 (hK8 _ _ ?_)
 refine W.seq fun K18 hK18 => ?_
 refine W.sr fun K19 hK19 => ?_
 refine zR 3 ?_
 rcases Bool.eq_false_or_eq_true (decide ((igetM img l gw gi gb n_).2 = 0)) with h20 | h20
 ·
  have h20p := of_decide_eq_true h20
  refine zS 20 h20 ?_
  refine zS 19 h20 ?_
  refine zR 1 ?_
  refine zL ⟨b14, 0, none⟩ (zu ((igetM img l gw gi gb n_).1.k)) (hs17.cellAt 0 rfl rfl) ?_
  refine zE 2 (hK19 _ _ ?_)
  refine W.cond (!decide ((igetM img l gw gi gb n_).1.k = 2)) (by kernel_rfl) (fun h21 => ?_) (fun h21 => ?_)
  ·
   have h21p : ¬ ((igetM img l gw gi gb n_).1.k = 2) := of_decide_eq_false (bnot_true h21)
   refine W.region ?_
   refine zE 1 (hK18 _ _ ?_)
   refine W.seq fun K22 hK22 => ?_
   refine W.sr fun K23 hK23 => ?_
   refine zE 2 (hK23 _ _ ?_)
   refine W.cond_true true (by kernel_rfl) rfl ?_
   refine W.sr fun K24 hK24 => ?_
   refine zR 2 ?_
   have hs27 := St.f1 hs17
   refine zT 0 [(.pointer none), (zi 0), (zi 0), (zi 0), (.pointer none)] [(.pointer none), (zi 0), (zi 0), (zi 0), (.pointer none)] hs27 fun w25 hs28 => ?_
   refine zE 1 (hK24 _ _ ?_)
   refine W.ret (ret_seq ?_)
   have hs29 := St.tk0 hs28
   refine ret_of (.tuple #[(.agg #[(.pointer none), (zi 0), (zi 0), (zi 0), (.pointer none)]), (zi 10)]) (resS_of (by kernel_rfl) (resD_two rfl (.agg (ad := ⟨b7, 0, none⟩) (cs := [(.pointer none), (zi 0), (zi 0), (zi 0), (.pointer none)]) (by kernel_rfl) (by kernel_rfl) (cells_sub (hs28.heapAt 0 rfl) rfl)) (.tmp (by kernel_rfl)))) ⟨_, ⟨rfl, rfl⟩, hs29⟩
  have h21p : (igetM img l gw gi gb n_).1.k = 2 := of_decide_eq_true (bnot_false h21)
  refine W.skip ?_
  refine hK18 _ _ ?_
  refine W.seq fun K30 hK30 => ?_
  refine W.sr fun K31 hK31 => ?_
  refine zE 2 (hK31 _ _ ?_)
  refine W.cond (!decide ((igetM img l gw gi gb n_).2 = 0)) (by kernel_rfl) (fun h32 => ?_) (fun h32 => ?_)
  ·
   have h32p : ¬ ((igetM img l gw gi gb n_).2 = 0) := of_decide_eq_false (bnot_true h32)
   refine W.sr fun K33 hK33 => ?_
   refine zR 2 ?_
   have hs36 := St.f1 hs17
   refine zT 0 [(.pointer none), (zi 0), (zi 0), (zi 0), (.pointer none)] [(.pointer none), (zi 0), (zi 0), (zi 0), (.pointer none)] hs36 fun w34 hs37 => ?_
   refine zE 1 (hK33 _ _ ?_)
   refine W.ret (ret_seq ?_)
   exfalso; omega
  have h32p : (igetM img l gw gi gb n_).2 = 0 := of_decide_eq_true (bnot_false h32)
  refine W.skip ?_
  refine hK30 _ _ ?_
  refine W.sr fun K38 hK38 => ?_
  refine zR 1 ?_
  refine zG ⟨b4, 0, none⟩ [(zi gw), (zi gi), (zi gb)] (cells_sub (hs17.heapAt 2 rfl) rfl) ?_
  refine zR 1 ?_
  rcases Bool.eq_false_or_eq_true (decide ((igetM img l gw gi gb n_).2 = 0)) with h39 | h39
  ·
   have h39p := of_decide_eq_true h39
   refine ops_call0 hs17 (by kernel_rfl) (bof_ok (gw := gw) (gi := gi) (gb := gb) (n_ := n_) (hv := (viewAt_old hs17 hv)) (hP := h39p) B _) ?_
   rintro _ _ w41 ⟨b40, rfl, rfl⟩ hs42
   have hs43 := St.ap1 hs42
   refine zE 5 (hK38 _ _ ?_)
   refine W.sr fun K44 hK44 => ?_
   refine zR 1 ?_
   refine zG ⟨b4, 0, none⟩ [(zi gw), (zi gi), (zi gb)] (cells_sub (hs43.heapAt 3 rfl) rfl) ?_
   refine zR 3 ?_
   have hs47 := St.f2 hs43
   refine zT 0 [(zp vb), (zi gw), (zi gi), (zi gb), (zp b40)] [(zp vb), (zi gw), (zi gi), (zi gb), (zp b40)] hs47 fun w45 hs48 => ?_
   refine zE 1 (hK44 _ _ ?_)
   refine W.ret ?_
   exfalso; omega
  have h39p := of_decide_eq_false h39
  refine zC00 hs17 (bof_err (gw := gw) (gi := gi) (gb := gb) (n_ := n_) (hv := (viewAt_old hs17 hv)) (hN := h39p) B _) fun w49 hs51 => ?_
  refine zE 5 (hK38 _ _ ?_)
  refine W.sr fun K52 hK52 => ?_
  refine zR 1 ?_
  refine zG ⟨b4, 0, none⟩ [(zi gw), (zi gi), (zi gb)] (cells_sub (hs51.heapAt 2 rfl) rfl) ?_
  refine zR 3 ?_
  have hs55 := St.f1 hs51
  refine zT 0 [(zp vb), (zi gw), (zi gi), (zi gb), (.pointer none)] [(zp vb), (zi gw), (zi gi), (zi gb), (.pointer none)] hs55 fun w53 hs56 => ?_
  refine zE 1 (hK52 _ _ ?_)
  refine W.ret ?_
  exfalso; omega
 have h20p := of_decide_eq_false h20
 refine zS 20 h20 ?_
 refine zS 19 h20 ?_
 refine zE 4 (hK19 _ _ ?_)
 refine W.cond_false false (by kernel_rfl) rfl ?_
 refine W.skip ?_
 refine hK18 _ _ ?_
 refine W.seq fun K57 hK57 => ?_
 refine W.sr fun K58 hK58 => ?_
 refine zE 2 (hK58 _ _ ?_)
 refine W.cond (!decide ((igetM img l gw gi gb n_).2 = 0)) (by kernel_rfl) (fun h59 => ?_) (fun h59 => ?_)
 ·
  have h59p : ¬ ((igetM img l gw gi gb n_).2 = 0) := of_decide_eq_false (bnot_true h59)
  refine W.sr fun K60 hK60 => ?_
  refine zR 2 ?_
  have hs63 := St.f1 hs17
  refine zT 0 [(.pointer none), (zi 0), (zi 0), (zi 0), (.pointer none)] [(.pointer none), (zi 0), (zi 0), (zi 0), (.pointer none)] hs63 fun w61 hs64 => ?_
  refine zE 1 (hK60 _ _ ?_)
  refine W.ret (ret_seq ?_)
  exfalso; omega
 have h59p : (igetM img l gw gi gb n_).2 = 0 := of_decide_eq_true (bnot_false h59)
 refine W.skip ?_
 refine hK57 _ _ ?_
 refine W.sr fun K65 hK65 => ?_
 refine zR 1 ?_
 refine zG ⟨b4, 0, none⟩ [(zi gw), (zi gi), (zi gb)] (cells_sub (hs17.heapAt 2 rfl) rfl) ?_
 refine zR 1 ?_
 rcases Bool.eq_false_or_eq_true (decide ((igetM img l gw gi gb n_).2 = 0)) with h66 | h66
 ·
  have h66p := of_decide_eq_true h66
  refine ops_call0 hs17 (by kernel_rfl) (bof_ok (gw := gw) (gi := gi) (gb := gb) (n_ := n_) (hv := (viewAt_old hs17 hv)) (hP := h66p) B _) ?_
  rintro _ _ w68 ⟨b67, rfl, rfl⟩ hs69
  have hs70 := St.ap1 hs69
  refine zE 5 (hK65 _ _ ?_)
  refine W.sr fun K71 hK71 => ?_
  refine zR 1 ?_
  refine zG ⟨b4, 0, none⟩ [(zi gw), (zi gi), (zi gb)] (cells_sub (hs70.heapAt 3 rfl) rfl) ?_
  refine zR 3 ?_
  have hs74 := St.f2 hs70
  refine zT 0 [(zp vb), (zi gw), (zi gi), (zi gb), (zp b67)] [(zp vb), (zi gw), (zi gi), (zi gb), (zp b67)] hs74 fun w72 hs75 => ?_
  refine zE 1 (hK71 _ _ ?_)
  refine W.ret ?_
  exfalso; omega
 have h66p := of_decide_eq_false h66
 refine zC00 hs17 (bof_err (gw := gw) (gi := gi) (gb := gb) (n_ := n_) (hv := (viewAt_old hs17 hv)) (hN := h66p) B _) fun w76 hs78 => ?_
 refine zE 5 (hK65 _ _ ?_)
 refine W.sr fun K79 hK79 => ?_
 refine zR 1 ?_
 refine zG ⟨b4, 0, none⟩ [(zi gw), (zi gi), (zi gb)] (cells_sub (hs78.heapAt 2 rfl) rfl) ?_
 refine zR 3 ?_
 have hs82 := St.f1 hs78
 refine zT 0 [(zp vb), (zi gw), (zi gi), (zi gb), (.pointer none)] [(zp vb), (zi gw), (zi gi), (zi gb), (.pointer none)] hs82 fun w80 hs83 => ?_
 refine zE 1 (hK79 _ _ ?_)
 refine W.ret ?_
 exfalso; omega
theorem eopen_err {vb : Nat} {img : List Int} {l : List (Int × Int)} {gw gi gb n_ : Int} (B : Nat) (w : World) (hv : ViewAt (ptr vb) img l w) (hN : ¬ ((igetM img l gw gi gb n_).2 = 0)) : Spec Try.prog 60 #[(zp vb), (.agg #[(zi gw), (zi gi), (zi gb)]), (zi n_)] B w [] (fun v H' => v = (.tuple #[(.agg #[(.pointer none), (zi 0), (zi 0), (zi 0), (.pointer none)]), (zi ((igetM img l gw gi gb n_).2))]) ∧ H' = []) := by
 refine spec_Q Try.func60 rfl fun hs => ?_
 refine W.sr fun K1 hK1 => ?_
 refine zN [(zi gw), (zi gi), (zi gb)] 33 hs fun b4 w2 hs3 => ?_
 refine zN [(.pointer none), (zi 0), (zi 0), (zi 0), (.pointer none)] 113 hs3 fun b7 w5 hs6 => ?_
 refine zE 1 (hK1 _ _ ?_)
 refine W.sr fun K8 hK8 => ?_
 refine zR 1 ?_
 refine zG ⟨b4, 0, none⟩ [(zi gw), (zi gi), (zi gb)] (cells_sub (hs6.heapAt 1 rfl) rfl) ?_
 refine zR 1 ?_
 refine zC00 hs6 (ig_spec (gw := gw) (gi := gi) (gb := gb) (n_ := n_) (hv := (viewAt_old hs6 hv)) B _) fun w9 hs11 => ?_
 refine zR 3 ?_
 refine zN [(zu 0), (zu 0), (zu 0), (zu 0), (zu 0), (zu 0), (zu 0), (zu 0), (zu 0), (zu 0)] 61 hs11 fun b14 w12 hs13 => ?_
 refine zT 0 [(zu ((igetM img l gw gi gb n_).1.k)), (zu ((igetM img l gw gi gb n_).1.l)), (zu ((igetM img l gw gi gb n_).1.o)), (zu ((igetM img l gw gi gb n_).1.s)), (zu ((igetM img l gw gi gb n_).1.a)), (zu ((igetM img l gw gi gb n_).1.b)), (zu ((igetM img l gw gi gb n_).1.c)), (zu ((igetM img l gw gi gb n_).1.d)), (zu ((igetM img l gw gi gb n_).1.e)), (zu ((igetM img l gw gi gb n_).1.m))] [(zu ((igetM img l gw gi gb n_).1.k)), (zu ((igetM img l gw gi gb n_).1.l)), (zu ((igetM img l gw gi gb n_).1.o)), (zu ((igetM img l gw gi gb n_).1.s)), (zu ((igetM img l gw gi gb n_).1.a)), (zu ((igetM img l gw gi gb n_).1.b)), (zu ((igetM img l gw gi gb n_).1.c)), (zu ((igetM img l gw gi gb n_).1.d)), (zu ((igetM img l gw gi gb n_).1.e)), (zu ((igetM img l gw gi gb n_).1.m))] hs13 fun w15 hs17 => ?_
 refine zE 1 (hK8 _ _ ?_)
 refine W.seq fun K18 hK18 => ?_
 refine W.sr fun K19 hK19 => ?_
 refine zR 3 ?_
 rcases Bool.eq_false_or_eq_true (decide ((igetM img l gw gi gb n_).2 = 0)) with h20 | h20
 ·
  have h20p := of_decide_eq_true h20
  refine zS 20 h20 ?_
  refine zS 19 h20 ?_
  refine zR 1 ?_
  refine zL ⟨b14, 0, none⟩ (zu ((igetM img l gw gi gb n_).1.k)) (hs17.cellAt 0 rfl rfl) ?_
  refine zE 2 (hK19 _ _ ?_)
  refine W.cond (!decide ((igetM img l gw gi gb n_).1.k = 2)) (by kernel_rfl) (fun h21 => ?_) (fun h21 => ?_)
  ·
   have h21p : ¬ ((igetM img l gw gi gb n_).1.k = 2) := of_decide_eq_false (bnot_true h21)
   refine W.region ?_
   refine zE 1 (hK18 _ _ ?_)
   refine W.seq fun K22 hK22 => ?_
   refine W.sr fun K23 hK23 => ?_
   refine zE 2 (hK23 _ _ ?_)
   refine W.cond_true true (by kernel_rfl) rfl ?_
   refine W.sr fun K24 hK24 => ?_
   refine zR 2 ?_
   have hs27 := St.f1 hs17
   refine zT 0 [(.pointer none), (zi 0), (zi 0), (zi 0), (.pointer none)] [(.pointer none), (zi 0), (zi 0), (zi 0), (.pointer none)] hs27 fun w25 hs28 => ?_
   refine zE 1 (hK24 _ _ ?_)
   refine W.ret (ret_seq ?_)
   exfalso; omega
  have h21p : (igetM img l gw gi gb n_).1.k = 2 := of_decide_eq_true (bnot_false h21)
  refine W.skip ?_
  refine hK18 _ _ ?_
  refine W.seq fun K29 hK29 => ?_
  refine W.sr fun K30 hK30 => ?_
  refine zE 2 (hK30 _ _ ?_)
  refine W.cond (!decide ((igetM img l gw gi gb n_).2 = 0)) (by kernel_rfl) (fun h31 => ?_) (fun h31 => ?_)
  ·
   have h31p : ¬ ((igetM img l gw gi gb n_).2 = 0) := of_decide_eq_false (bnot_true h31)
   refine W.sr fun K32 hK32 => ?_
   refine zR 2 ?_
   have hs35 := St.f1 hs17
   refine zT 0 [(.pointer none), (zi 0), (zi 0), (zi 0), (.pointer none)] [(.pointer none), (zi 0), (zi 0), (zi 0), (.pointer none)] hs35 fun w33 hs36 => ?_
   refine zE 1 (hK32 _ _ ?_)
   refine W.ret (ret_seq ?_)
   have hs37 := St.tk0 hs36
   refine ret_of (.tuple #[(.agg #[(.pointer none), (zi 0), (zi 0), (zi 0), (.pointer none)]), (zi ((igetM img l gw gi gb n_).2))]) (resS_of (by kernel_rfl) (resD_two rfl (.agg (ad := ⟨b7, 0, none⟩) (cs := [(.pointer none), (zi 0), (zi 0), (zi 0), (.pointer none)]) (by kernel_rfl) (by kernel_rfl) (cells_sub (hs36.heapAt 0 rfl) rfl)) (.tmp (by kernel_rfl)))) ⟨_, ⟨rfl, rfl⟩, hs37⟩
  have h31p : (igetM img l gw gi gb n_).2 = 0 := of_decide_eq_true (bnot_false h31)
  refine W.skip ?_
  refine hK29 _ _ ?_
  refine W.sr fun K38 hK38 => ?_
  refine zR 1 ?_
  refine zG ⟨b4, 0, none⟩ [(zi gw), (zi gi), (zi gb)] (cells_sub (hs17.heapAt 2 rfl) rfl) ?_
  refine zR 1 ?_
  rcases Bool.eq_false_or_eq_true (decide ((igetM img l gw gi gb n_).2 = 0)) with h39 | h39
  ·
   have h39p := of_decide_eq_true h39
   refine ops_call0 hs17 (by kernel_rfl) (bof_ok (gw := gw) (gi := gi) (gb := gb) (n_ := n_) (hv := (viewAt_old hs17 hv)) (hP := h39p) B _) ?_
   rintro _ _ w41 ⟨b40, rfl, rfl⟩ hs42
   have hs43 := St.ap1 hs42
   refine zE 5 (hK38 _ _ ?_)
   refine W.sr fun K44 hK44 => ?_
   refine zR 1 ?_
   refine zG ⟨b4, 0, none⟩ [(zi gw), (zi gi), (zi gb)] (cells_sub (hs43.heapAt 3 rfl) rfl) ?_
   refine zR 3 ?_
   have hs47 := St.f2 hs43
   refine zT 0 [(zp vb), (zi gw), (zi gi), (zi gb), (zp b40)] [(zp vb), (zi gw), (zi gi), (zi gb), (zp b40)] hs47 fun w45 hs48 => ?_
   refine zE 1 (hK44 _ _ ?_)
   refine W.ret ?_
   exfalso; omega
  have h39p := of_decide_eq_false h39
  refine zC00 hs17 (bof_err (gw := gw) (gi := gi) (gb := gb) (n_ := n_) (hv := (viewAt_old hs17 hv)) (hN := h39p) B _) fun w49 hs51 => ?_
  refine zE 5 (hK38 _ _ ?_)
  refine W.sr fun K52 hK52 => ?_
  refine zR 1 ?_
  refine zG ⟨b4, 0, none⟩ [(zi gw), (zi gi), (zi gb)] (cells_sub (hs51.heapAt 2 rfl) rfl) ?_
  refine zR 3 ?_
  have hs55 := St.f1 hs51
  refine zT 0 [(zp vb), (zi gw), (zi gi), (zi gb), (.pointer none)] [(zp vb), (zi gw), (zi gi), (zi gb), (.pointer none)] hs55 fun w53 hs56 => ?_
  refine zE 1 (hK52 _ _ ?_)
  refine W.ret ?_
  exfalso; omega
 have h20p := of_decide_eq_false h20
 refine zS 20 h20 ?_
 refine zS 19 h20 ?_
 refine zE 4 (hK19 _ _ ?_)
 refine W.cond_false false (by kernel_rfl) rfl ?_
 refine W.skip ?_
 refine hK18 _ _ ?_
 refine W.seq fun K57 hK57 => ?_
 refine W.sr fun K58 hK58 => ?_
 refine zE 2 (hK58 _ _ ?_)
 refine W.cond (!decide ((igetM img l gw gi gb n_).2 = 0)) (by kernel_rfl) (fun h59 => ?_) (fun h59 => ?_)
 ·
  have h59p : ¬ ((igetM img l gw gi gb n_).2 = 0) := of_decide_eq_false (bnot_true h59)
  refine W.sr fun K60 hK60 => ?_
  refine zR 2 ?_
  have hs63 := St.f1 hs17
  refine zT 0 [(.pointer none), (zi 0), (zi 0), (zi 0), (.pointer none)] [(.pointer none), (zi 0), (zi 0), (zi 0), (.pointer none)] hs63 fun w61 hs64 => ?_
  refine zE 1 (hK60 _ _ ?_)
  refine W.ret (ret_seq ?_)
  have hs65 := St.tk0 hs64
  refine ret_of (.tuple #[(.agg #[(.pointer none), (zi 0), (zi 0), (zi 0), (.pointer none)]), (zi ((igetM img l gw gi gb n_).2))]) (resS_of (by kernel_rfl) (resD_two rfl (.agg (ad := ⟨b7, 0, none⟩) (cs := [(.pointer none), (zi 0), (zi 0), (zi 0), (.pointer none)]) (by kernel_rfl) (by kernel_rfl) (cells_sub (hs64.heapAt 0 rfl) rfl)) (.tmp (by kernel_rfl)))) ⟨_, ⟨rfl, rfl⟩, hs65⟩
 have h59p : (igetM img l gw gi gb n_).2 = 0 := of_decide_eq_true (bnot_false h59)
 refine W.skip ?_
 refine hK57 _ _ ?_
 refine W.sr fun K66 hK66 => ?_
 refine zR 1 ?_
 refine zG ⟨b4, 0, none⟩ [(zi gw), (zi gi), (zi gb)] (cells_sub (hs17.heapAt 2 rfl) rfl) ?_
 refine zR 1 ?_
 rcases Bool.eq_false_or_eq_true (decide ((igetM img l gw gi gb n_).2 = 0)) with h67 | h67
 ·
  have h67p := of_decide_eq_true h67
  refine ops_call0 hs17 (by kernel_rfl) (bof_ok (gw := gw) (gi := gi) (gb := gb) (n_ := n_) (hv := (viewAt_old hs17 hv)) (hP := h67p) B _) ?_
  rintro _ _ w69 ⟨b68, rfl, rfl⟩ hs70
  have hs71 := St.ap1 hs70
  refine zE 5 (hK66 _ _ ?_)
  refine W.sr fun K72 hK72 => ?_
  refine zR 1 ?_
  refine zG ⟨b4, 0, none⟩ [(zi gw), (zi gi), (zi gb)] (cells_sub (hs71.heapAt 3 rfl) rfl) ?_
  refine zR 3 ?_
  have hs75 := St.f2 hs71
  refine zT 0 [(zp vb), (zi gw), (zi gi), (zi gb), (zp b68)] [(zp vb), (zi gw), (zi gi), (zi gb), (zp b68)] hs75 fun w73 hs76 => ?_
  refine zE 1 (hK72 _ _ ?_)
  refine W.ret ?_
  exfalso; omega
 have h67p := of_decide_eq_false h67
 refine zC00 hs17 (bof_err (gw := gw) (gi := gi) (gb := gb) (n_ := n_) (hv := (viewAt_old hs17 hv)) (hN := h67p) B _) fun w77 hs79 => ?_
 refine zE 5 (hK66 _ _ ?_)
 refine W.sr fun K80 hK80 => ?_
 refine zR 1 ?_
 refine zG ⟨b4, 0, none⟩ [(zi gw), (zi gi), (zi gb)] (cells_sub (hs79.heapAt 2 rfl) rfl) ?_
 refine zR 3 ?_
 have hs83 := St.f1 hs79
 refine zT 0 [(zp vb), (zi gw), (zi gi), (zi gb), (.pointer none)] [(zp vb), (zi gw), (zi gi), (zi gb), (.pointer none)] hs83 fun w81 hs84 => ?_
 refine zE 1 (hK80 _ _ ?_)
 refine W.ret ?_
 exfalso; omega
end Go.Proofs.Ytmmclabkkigiaaa

set_option maxRecDepth 20000
set_option maxHeartbeats 4000000
namespace Go.Proofs.Ytmmclabkkigiaaa
open Go Go.RowKit
def eFind_M (img : List Int) (l : List (Int × Int)) (gw : Int) (gi : Int) (gb : Int) (n_ : Int) (tx_ : ByteArray) : Option (ByteArray × Int × Int × Int) :=
 if (igetM img l gw gi gb n_).2 = 0 then (if (igetM img l gw gi gb n_).1.k = 2 then ((tfind_M img l gw gi gb n_ tx_).bind fun r25 =>
some (r25.1, r25.2.1, r25.2.2.1, r25.2.2.2)) else (some (ByteArray.empty, 0, 0, 10))) else ((some ((igetM img l gw gi gb n_).2)).bind fun r65 =>
if r65 = 0 then (none) else (some (ByteArray.empty, 0, 0, r65)))
theorem eFind_walk {img : List Int} {l : List (Int × Int)} {gw : Int} {gi : Int} {gb : Int} {n_ : Int} {tx_ : ByteArray} {vb : Nat} {r : ByteArray × Int × Int × Int} (B : Nat) (w : World) (hm : eFind_M img l gw gi gb n_ tx_ = some r) : Spec Try.prog 45 #[(zp vb), (.agg #[(zi gw), (zi gi), (zi gb)]), (zi n_), (.string tx_)] B w [viewA (ptr vb) img l] (fun v H' => v = (.tuple #[(.agg #[(.string r.1), (zi r.2.1)]), (zi r.2.2.1), (zi r.2.2.2)]) ∧ H' = [viewA (ptr vb) img l]) := by
 refine spec_W Try.func45 rfl fun l0 hs => ?_
 unfold eFind_M at hm
 refine W.sr fun K1 hK1 => ?_
 refine zN [(zi gw), (zi gi), (zi gb)] 33 hs fun b4 w2 hs3 => ?_
 refine zN [(.string ByteArray.empty), (zi 0)] 89 hs3 fun b7 w5 hs6 => ?_
 refine zE 2 (hK1 _ _ ?_)
 refine W.sr fun K9 hK9 => ?_
 refine zR 1 ?_
 refine zG ⟨b4, 0, none⟩ [(zi gw), (zi gi), (zi gb)] (cells_sub (hs6.heapAt 1 rfl) rfl) ?_
 refine zR 1 ?_
 rcases Bool.eq_false_or_eq_true (decide ((igetM img l gw gi gb n_).2 = 0)) with h10 | h10
 ·
  obtain ⟨h10p, hm⟩ := iY hm h10
  rcases Bool.eq_false_or_eq_true (decide ((igetM img l gw gi gb n_).1.k = 2)) with h11 | h11
  ·
   obtain ⟨h11p, hm⟩ := iY hm h11
   refine ops_call0 hs6 (by kernel_rfl) (eopen_ok (gw := gw) (gi := gi) (gb := gb) (n_ := n_) (hv := (hs6.entAt 2 rfl viewA_at)) (hP := h10p) (hK := h11p) B _) ?_
   rintro _ _ w13 ⟨b12, rfl, rfl⟩ hs14
   have hs15 := St.ap1 hs14
   refine zR 3 ?_
   refine zN [(.pointer none), (zi 0), (zi 0), (zi 0), (.pointer none)] 113 hs15 fun b18 w16 hs17 => ?_
   refine zT 0 [(zp vb), (zi gw), (zi gi), (zi gb), (zp b12)] [(zp vb), (zi gw), (zi gi), (zi gb), (zp b12)] hs17 fun w19 hs21 => ?_
   refine zE 1 (hK9 _ _ ?_)
   refine W.seq fun K22 hK22 => ?_
   refine W.sr fun K23 hK23 => ?_
   refine zE 2 (hK23 _ _ ?_)
   refine W.cond_false false (by kernel_rfl) rfl ?_
   refine W.skip ?_
   refine hK22 _ _ ?_
   refine W.sr fun K24 hK24 => ?_
   refine zG ⟨b18, 0, none⟩ [(zp vb), (zi gw), (zi gi), (zi gb), (zp b12)] (cells_sub (hs21.heapAt 0 rfl) rfl) ?_
   refine zR 1 ?_
   obtain ⟨r25, h26, hm⟩ := bind_some hm
   have hs27 := St.f4 hs21
   have hs28 := St.f2 hs27
   refine zC22 hs28 (tfind_walk (mb := b12) (vb := vb) (tx_ := tx_) (img := img) (l := l) (gw := gw) (gi := gi) (gb := gb) (n_ := n_) (hm := h26) B _) fun w29 hs31 => ?_
   refine zR 3 ?_
   have hs34 := St.f3 hs31
   refine zT 0 [(.string r25.1), (zi r25.2.1)] [(.string r25.1), (zi r25.2.1)] hs34 fun w32 hs35 => ?_
   refine zE 2 (hK24 _ _ ?_)
   refine W.ret ?_
   obtain rfl := some_inj hm
   have hs36 := St.f2 hs35
   have hs37 := St.tk1 hs36
   refine ret_of (.tuple #[(.agg #[(.string r25.1), (zi r25.2.1)]), (zi r25.2.2.1), (zi r25.2.2.2)]) (resS_of (by kernel_rfl) (resD_three rfl (.agg (ad := ⟨b7, 0, none⟩) (cs := [(.string r25.1), (zi r25.2.1)]) (by kernel_rfl) (by kernel_rfl) (cells_sub (hs35.heapAt 0 rfl) rfl)) (.tmp (by kernel_rfl)) (.tmp (by kernel_rfl)))) ⟨_, ⟨rfl, rfl⟩, hs37⟩
  obtain ⟨h11p, hm⟩ := iN hm h11
  refine zC00 hs6 (eopen_dir (gw := gw) (gi := gi) (gb := gb) (n_ := n_) (hv := (hs6.entAt 2 rfl viewA_at)) (hP := h10p) (hK := h11p) B _) fun w38 hs40 => ?_
  refine zR 3 ?_
  refine zN [(.pointer none), (zi 0), (zi 0), (zi 0), (.pointer none)] 113 hs40 fun b43 w41 hs42 => ?_
  refine zT 0 [(.pointer none), (zi 0), (zi 0), (zi 0), (.pointer none)] [(.pointer none), (zi 0), (zi 0), (zi 0), (.pointer none)] hs42 fun w44 hs46 => ?_
  refine zE 1 (hK9 _ _ ?_)
  refine W.seq fun K47 hK47 => ?_
  refine W.sr fun K48 hK48 => ?_
  refine zE 2 (hK48 _ _ ?_)
  refine W.cond_true true (by kernel_rfl) rfl ?_
  refine W.sr fun K49 hK49 => ?_
  refine zR 2 ?_
  have hs52 := St.f1 hs46
  refine zT 0 [(.string ByteArray.empty), (zi 0)] [(.string ByteArray.empty), (zi 0)] hs52 fun w50 hs53 => ?_
  refine zE 2 (hK49 _ _ ?_)
  refine W.ret (ret_seq ?_)
  obtain rfl := some_inj hm
  have hs54 := St.f3 hs53
  have hs55 := St.tk1 hs54
  refine ret_of (.tuple #[(.agg #[(.string ByteArray.empty), (zi 0)]), (zi 0), (zi 10)]) (resS_of (by kernel_rfl) (resD_three rfl (.agg (ad := ⟨b7, 0, none⟩) (cs := [(.string ByteArray.empty), (zi 0)]) (by kernel_rfl) (by kernel_rfl) (cells_sub (hs53.heapAt 0 rfl) rfl)) (.tmp (by kernel_rfl)) (.tmp (by kernel_rfl)))) ⟨_, ⟨rfl, rfl⟩, hs55⟩
 obtain ⟨h10p, hm⟩ := iN hm h10
 refine zC00 hs6 (eopen_err (gw := gw) (gi := gi) (gb := gb) (n_ := n_) (hv := (hs6.entAt 2 rfl viewA_at)) (hN := h10p) B _) fun w56 hs58 => ?_
 refine zR 3 ?_
 refine zN [(.pointer none), (zi 0), (zi 0), (zi 0), (.pointer none)] 113 hs58 fun b61 w59 hs60 => ?_
 refine zT 0 [(.pointer none), (zi 0), (zi 0), (zi 0), (.pointer none)] [(.pointer none), (zi 0), (zi 0), (zi 0), (.pointer none)] hs60 fun w62 hs64 => ?_
 refine zR 1 ?_
 obtain ⟨r65, h66, hm⟩ := bind_some hm
 replace h66 := some_inj h66
 refine ops_set 12 (v := .int .i64 r65) (Eq.trans (by kernel_rfl) (congrArg (Value.int .i64) h66)) ?_
 refine zD (hK9 _ _ ?_)
 refine W.seq fun K67 hK67 => ?_
 refine W.sr fun K68 hK68 => ?_
 refine zE 2 (hK68 _ _ ?_)
 refine W.cond (!decide (r65 = 0)) (by kernel_rfl) (fun h69 => ?_) (fun h69 => ?_)
 rotate_left
 ·
  have h69p : r65 = 0 := of_decide_eq_true (bnot_false h69)
  exact absurd h69p (fun e_ => h10p (h66.trans e_))
 have h69p : ¬ (r65 = 0) := of_decide_eq_false (bnot_true h69)
 replace hm := ite_no hm h69p
 refine W.sr fun K70 hK70 => ?_
 refine zR 2 ?_
 have hs73 := St.f1 hs64
 refine zT 0 [(.string ByteArray.empty), (zi 0)] [(.string ByteArray.empty), (zi 0)] hs73 fun w71 hs74 => ?_
 refine zE 2 (hK70 _ _ ?_)
 refine W.ret (ret_seq ?_)
 obtain rfl := some_inj hm
 have hs75 := St.f3 hs74
 have hs76 := St.tk1 hs75
 refine ret_of (.tuple #[(.agg #[(.string ByteArray.empty), (zi 0)]), (zi 0), (zi r65)]) (resS_of (by kernel_rfl) (resD_three rfl (.agg (ad := ⟨b7, 0, none⟩) (cs := [(.string ByteArray.empty), (zi 0)]) (by kernel_rfl) (by kernel_rfl) (cells_sub (hs74.heapAt 0 rfl) rfl)) (.tmp (by kernel_rfl)) (.tmp (by kernel_rfl)))) ⟨_, ⟨rfl, rfl⟩, hs76⟩
end Go.Proofs.Ytmmclabkkigiaaa

set_option maxRecDepth 20000
set_option maxHeartbeats 4000000
namespace Go.Proofs.Ytmmclabkkigiaaa
open Go Go.RowKit
def pstep_M (img : List Int) (l : List (Int × Int)) (gw : Int) (gi : Int) (gb : Int) (n_ : Int) (tx_ : ByteArray) : Option (Int × Int) :=
 (eFind_M img l gw gi gb n_ tx_).bind fun r6 =>
some (r6.2.1, r6.2.2.2)
theorem pstep_walk {img : List Int} {l : List (Int × Int)} {gw : Int} {gi : Int} {gb : Int} {n_ : Int} {tx_ : ByteArray} {vb : Nat} {r : Int × Int} (B : Nat) (w : World) (hm : pstep_M img l gw gi gb n_ tx_ = some r) : Spec Try.prog 27 #[(.agg #[(zp vb), (zi gw), (zi gi), (zi gb)]), (zi n_), (.string tx_)] B w [viewA (ptr vb) img l] (fun v H' => v = (.tuple #[(zi r.1), (zi r.2)]) ∧ H' = [viewA (ptr vb) img l]) := by
 refine spec_W Try.func27 rfl fun l0 hs => ?_
 unfold pstep_M at hm
 refine W.sr fun K1 hK1 => ?_
 refine zN [(zp vb), (zi gw), (zi gi), (zi gb)] 53 hs fun b4 w2 hs3 => ?_
 refine zE 2 (hK1 _ _ ?_)
 refine W.sr fun K5 hK5 => ?_
 refine zR 1 ?_
 refine zL ⟨b4, 0, none⟩ (zp vb) (hs3.cellAt 0 rfl rfl) ?_
 refine zR 1 ?_
 refine zG ⟨b4, 1, none⟩ [(zi gw), (zi gi), (zi gb)] (cells_sub (hs3.heapAt 0 rfl) rfl) ?_
 refine zR 2 ?_
 obtain ⟨r6, h7, hm⟩ := bind_some hm
 have hs8 := St.f1 hs3
 refine zC11 hs8 (eFind_walk (vb := vb) (gw := gw) (gi := gi) (gb := gb) (n_ := n_) (tx_ := tx_) (img := img) (l := l) (hm := h7) B _) fun w9 hs11 => ?_
 refine zR 4 ?_
 refine zN [(.string ByteArray.empty), (zi 0)] 89 hs11 fun b14 w12 hs13 => ?_
 refine zT 0 [(.string r6.1), (zi r6.2.1)] [(.string r6.1), (zi r6.2.1)] hs13 fun w15 hs17 => ?_
 refine zE 2 (hK5 _ _ ?_)
 refine W.sr fun K18 hK18 => ?_
 refine zR 1 ?_
 refine zL ⟨b14, 1, none⟩ (zi r6.2.1) (hs17.cellAt 0 rfl rfl) ?_
 refine zE 3 (hK18 _ _ ?_)
 refine W.ret ?_
 obtain rfl := some_inj hm
 have hs19 := St.f1 hs17
 have hs20 := St.tk1 hs19
 refine ret_of (.tuple #[(zi r6.2.1), (zi r6.2.2.2)]) (by kernel_rfl) ⟨_, ⟨rfl, rfl⟩, hs20⟩
end Go.Proofs.Ytmmclabkkigiaaa

namespace Go.Proofs.Ytmmclabkkigiaaa
open Go Go.RowKit
section
variable {P : Program} {ops : Array Oper} {i : Nat} {s : Fs} {w : World}
theorem bounds_of {isS : Bool} {len cap k m : Nat} {lo hi : Option Value} (hlo : (lo = none ∧ k = 0) ∨ ∃ q, lo = some (.int q (k : Int))) (hhi : (hi = none ∧ m = len) ∨ ∃ q, hi = some (.int q (m : Int))) (h1 : k ≤ m) (h2 : m ≤ cap) :
    (Instr.sliceBounds isS len cap lo hi none).run P w = .ok (k, m, cap) w := by
  have hb : ∀ (q : IntKind) (z y : Nat) (code : BoundsCode), z ≤ y → (Instr.sliceBound (.int q (z : Int)) y code).run P w = .ok z w := by
    intro q z y code hzy
    have : (0 : Int) ≤ (z : Int) ∧ (z : Int) ≤ (y : Int) := ⟨by omega, by omega⟩
    simp only [Instr.sliceBound, asIntOf, Sem.run_bind, Sem.run_pure, Result.andThen_ok, if_pos this, Int.toNat_natCast]
  unfold Instr.sliceBounds
  rcases hlo with ⟨rfl, rfl⟩ | ⟨q, rfl⟩ <;> rcases hhi with ⟨rfl, rfl⟩ | ⟨q2, rfl⟩ <;> simp only [Sem.run_bind, Sem.run_pure, Result.andThen_ok, hb _ _ _ _ h1, hb _ _ _ _ h2]
def valInt : Option Value → Option (Option Int)
  | none => some none
  | some (.int _ k) => some (some k)
  | _ => none
theorem valInt_none {v : Option Value} (h : valInt v = some none) : v = none := by
  cases v with
  | none => rfl
  | some v => cases v <;> simp [valInt] at h
theorem valInt_some {v : Option Value} {z : Int} (h : valInt v = some (some z)) : ∃ q, v = some (.int q z) := by
  cases v with
  | none => simp [valInt] at h
  | some v => cases v <;> simp [valInt] at h; subst h; exact ⟨_, rfl⟩
def strSliceQ (P : Program) (ops : Array Oper) (i : Nat) (s : Fs) : Option (ByteArray × Option Int × Option Int) :=
  match opQ ops i s with
  | some o => match o.op with
    | .slice t x lo hi none => match P.underlying t, evS s x, valInt (lo.map (evS s)), valInt (hi.map (evS s)) with
      | some .string, .string b, some l, some h => some (b, l, h)
      | _, _, _, _ => none
    | _ => none
  | none => none
theorem runs_strSlice {b : ByteArray} {lo hi : Option Int} (k m : Nat) (hlo : lo = some (k : Int) ∨ lo = none ∧ k = 0) (hhi : hi = some (m : Int) ∨ hi = none ∧ m = b.size) (h1 : k ≤ m) (h2 : m ≤ b.size) (hq : strSliceQ P ops i s = some (b, lo, hi)) :
    RunsTo P ops i s w (.string (b.extract k m)) w := by
  unfold strSliceQ at hq
  split at hq
  · rename_i o ho
    split at hq
    · rename_i t x lo' hi' hop
      split at hq
      · rename_i b' l h hu hx hl hh
        simp only [Option.some.injEq, Prod.mk.injEq] at hq
        obtain ⟨rfl, rfl, rfl⟩ := hq
        refine ⟨_, ho, ?_⟩
        have hun := run_underlying (P := P) hu w
        have hlo2 : (lo'.map (evS s) = none ∧ k = 0) ∨ ∃ q, lo'.map (evS s) = some (.int q (k : Int)) := by
          rcases hlo with rfl | ⟨rfl, hk⟩
          · exact .inr (valInt_some hl)
          · exact .inl ⟨valInt_none hl, hk⟩
        have hhi2 : (hi'.map (evS s) = none ∧ m = b'.size) ∨ ∃ q, hi'.map (evS s) = some (.int q (m : Int)) := by
          rcases hhi with rfl | ⟨rfl, hk⟩
          · exact .inr (valInt_some hh)
          · exact .inl ⟨valInt_none hh, hk⟩
        have hb := bounds_of (P := P) (w := w) (isS := false) hlo2 hhi2 h1 h2
        have hxx : (Instr.sliceAt t (evS s x) (lo'.map (evS s)) (hi'.map (evS s)) none).run P w = .ok (.string (b'.extract k m)) w := by
          unfold Instr.sliceAt
          simp only [Sem.run_bind, hun, Result.andThen_ok, hx]
          unfold Instr.slice
          simp only [Sem.run_bind, hun, Result.andThen_ok, hb, Sem.run_pure, Option.isSome_none, Bool.false_eq_true, if_false]
        simp only [execOp, hop, Option.map_none, Sem.run_bind, hxx, Result.andThen_ok, Sem.run_pure]
      · cases hq
    · cases hq
  · cases hq
def strAddQ (P : Program) (ops : Array Oper) (i : Nat) (s : Fs) : Option (ByteArray × ByteArray) :=
  match opQ ops i s with
  | some o => match o.op with
    | .binOp .add t x y u => match evS s x, evS s y with
      | .string a, .string b => some (a, b)
      | _, _ => none
    | _ => none
  | none => none
theorem runs_strAdd {a b : ByteArray} (h : a.size + b.size ≤ 9223372036854775807) (hq : strAddQ P ops i s = some (a, b)) : RunsTo P ops i s w (.string (a ++ b)) w := by
  unfold strAddQ at hq
  split at hq
  · rename_i o ho
    split at hq
    · rename_i t x' y' yt hop
      refine ⟨o, ho, ?_⟩
      split at hq
      · rename_i a1 b1 hx hy
        cases hq
        have hg : (eqGuard .add t x' y' (.string a) (.string b)).run P w = .ok () w := by
          unfold eqGuard
          rfl
        simp only [execOp, hop, hx, hy, Sem.run_bind, hg, Result.andThen_ok, binOp, run_string_add_sum w a b h, Sem.run_pure]
      · cases hq
    · cases hq
  · cases hq
end
end Go.Proofs.Ytmmclabkkigiaaa

namespace Go.Proofs.Ytmmclabkkigiaaa
open Go Go.RowKit
def kStr : Kind ByteArray := ⟨9, 1, fun x => [.string x], by decide, fun _ => rfl, fun _ => rfl⟩
section
variable {P : Program} {ops : Array Oper} {i : Nat} {s : Fs} {w : World}
end
end Go.Proofs.Ytmmclabkkigiaaa

namespace Go.Proofs.Ytmmclabkkigiaaa
open Go Go.RowKit
section
variable {B : Nat} {w : World} {l : List Nat}
theorem row_at {α : Type} {K : Kind α} {a : Option Addr} {c : Nat} {xs : List α} (h : (K.row a c xs).P B w l) : CellsAt a (K.cells xs) w := rowA_cells h
end
section
variable {M : Bool} {P : Program} {ops : Array Oper} {i : Nat} {s : Fs} {w : World} {K : Fs → World → Prop}
end
end Go.Proofs.Ytmmclabkkigiaaa

set_option maxRecDepth 20000
set_option maxHeartbeats 4000000
namespace Go.Proofs.Ytmmclabkkigiaaa
open Go Go.RowKit
def pwalk_B0 (img : List Int) (l : List (Int × Int)) (gw : Int) (gi : Int) (gb : Int) (xs : List ByteArray) (k7 : (Int × Int) → Option (Int × Int)) (p5 : Int) (p6 : Int) : Option (Int × Int) :=
 if p6 < (xs.length : Int) then (need (0 ≤ p6 ∧ p6 < (xs.length : Int)) <|
(pstep_M img l gw gi gb p5 (xs.getD p6.toNat ByteArray.empty)).bind fun r19 =>
if r19.2 = 0 then (need (-9223372036854775808 ≤ (p6 + 1) ∧ (p6 + 1) ≤ 9223372036854775807) <|
k7 (r19.1, (p6 + 1))) else (some (0, r19.2))) else (some (p5, 0))
def pwalk_M (img : List Int) (l : List (Int × Int)) (gw : Int) (gi : Int) (gb : Int) (xs : List ByteArray) : Option (Int × Int) :=
 iter (fun k_ s_ => pwalk_B0 img l gw gi gb xs k_ s_.1 s_.2) FUEL (1, 0)
theorem pwalk_walk {img : List Int} {l : List (Int × Int)} {gw : Int} {gi : Int} {gb : Int} {xs : List ByteArray} {vb : Nat} {A_ : Asn} {xa : Option Addr} {xc : Nat} {r : Int × Int} (B : Nat) (w : World) (hA : ∀ {B_ : Nat} {w_ : World} {l_ : List Nat}, A_.P B_ w_ l_ → CellsAt xa (kStr.cells xs) w_) (hm : pwalk_M img l gw gi gb xs = some r) : Spec Try.prog 26 #[(.slice xa xs.length xc), (.func (.func 27) #[(.agg #[(zp vb), (zi gw), (zi gi), (zi gb)])] #[])] B w [viewA (ptr vb) img l, A_] (fun v H' => v = (.tuple #[(zi r.1), (zi r.2)]) ∧ H' = [viewA (ptr vb) img l, A_]) := by
 refine spec_W Try.func26 rfl fun l0 hs => ?_
 unfold pwalk_M at hm
 refine W.sr fun K1 hK1 => ?_
 refine zE 2 (hK1 _ _ ?_)
 refine W.sr fun K2 hK2 => ?_
 refine zE 1 (hK2 _ _ ?_)
 refine W.seq fun K3 hK3 => ?_
 refine W.sr fun K4 hK4 => ?_
 refine zE 3 (hK4 _ _ ?_)
 refine W.block ?_
 refine W.loop_iter (G := Int × Int) (σ := Int × Int) (fun | (p5, p6) => (p5, p6)) (fun | (p5, p6), s_, w_ => (∃ us, s_ = slots 30 [(1, (.func (.func 27) #[(.agg #[(zp vb), (zi gw), (zi gi), (zi gb)])] #[])), (6, (zi p5)), (11, (.slice xa xs.length xc)), (12, (zi (xs.length : Int))), (13, (zi p6))] us) ∧ St B w l0 w_ [viewA (ptr vb) img l, A_]) (1, 0) ⟨slots_intro _ (by kernel_rfl), hs⟩ hm ?_
 rintro k7 ih8 ⟨p5, p6⟩ _ w9 ⟨⟨us, rfl⟩, hs10⟩ hm
 replace hm : pwalk_B0 img l gw gi gb xs k7 p5 p6 = some r := hm
 unfold pwalk_B0 at hm
 refine W.sr fun K11 hK11 => ?_
 refine zE 1 (hK11 _ _ ?_)
 refine W.seq fun K12 hK12 => ?_
 refine W.cond (decide (p6 < (xs.length : Int))) (by kernel_rfl) (fun h13 => ?_) (fun h13 => ?_)
 ·
  obtain ⟨h13p, hm⟩ := iY hm h13
  refine W.skip ?_
  refine hK12 _ _ ?_
  refine W.seq fun K14 hK14 => ?_
  refine W.block ?_
  refine W.sr fun K15 hK15 => ?_
  obtain ⟨h17, hm⟩ := need_some hm
  have hk16 := lt_toNat h17
  refine ops_R (runs_index (a := xa) (n := xs.length) (z := p6) (size := 1) p6.toNat (nat_of h17.1) hk16 (kStr.addr (hs10.entAt 1 rfl hA) hk16) (by kernel_rfl)) ?_
  refine zL ((adr xa (p6.toNat * 1)).add 0) (.string (xs.getD p6.toNat ByteArray.empty)) (kStr.at (hs10.entAt 1 rfl hA) hk16 ByteArray.empty 0 rfl) ?_
  refine zE 1 (hK15 _ _ ?_)
  refine W.sr fun K18 hK18 => ?_
  refine zR 3 ?_
  obtain ⟨r19, h20, hm⟩ := bind_some hm
  refine zC11 hs10 (pstep_walk (vb := vb) (img := img) (l := l) (gw := gw) (gi := gi) (gb := gb) (n_ := p5) (tx_ := (xs.getD p6.toNat ByteArray.empty)) (hm := h20) B _) fun w21 hs23 => ?_
  refine zE 5 (hK18 _ _ ?_)
  refine W.seq fun K24 hK24 => ?_
  refine W.sr fun K25 hK25 => ?_
  refine zE 2 (hK25 _ _ ?_)
  refine W.cond (!decide (r19.2 = 0)) (by kernel_rfl) (fun h26 => ?_) (fun h26 => ?_)
  rotate_left
  ·
   have h26p : r19.2 = 0 := of_decide_eq_true (bnot_false h26)
   replace hm := ite_yes hm h26p
   refine W.skip ?_
   refine hK24 _ _ ?_
   refine W.region ?_
   refine zE 2 ?_
   refine normal_block ?_
   refine hK14 _ _ ?_
   refine W.region ?_
   obtain ⟨h27, hm⟩ := need_some hm
   refine zI _ (wrap_i64 h27.1 h27.2) ?_
   refine zE 1 ?_
   refine loopAt_next ?_
   exact ih8 (r19.1, (p6 + 1)) _ _ ⟨slots_intro _ (by kernel_rfl), hs23⟩ hm
  have h26p : ¬ (r19.2 = 0) := of_decide_eq_false (bnot_true h26)
  replace hm := ite_no hm h26p
  refine W.sr fun K28 hK28 => ?_
  refine zE 3 (hK28 _ _ ?_)
  refine W.ret (ret_seq (ret_block (ret_seq (ret_seq (ret_block (ret_seq ?_))))))
  obtain rfl := some_inj hm
  refine ret_of (.tuple #[(zi 0), (zi r19.2)]) (by kernel_rfl) ⟨_, ⟨rfl, rfl⟩, hs23⟩
 obtain ⟨h13p, hm⟩ := iN hm h13
 refine W.exit (exit_seq (exit_seq (exit_here ?_)))
 refine hK3 _ _ ?_
 refine W.sr fun K29 hK29 => ?_
 refine zE 3 (hK29 _ _ ?_)
 refine W.ret ?_
 obtain rfl := some_inj hm
 refine ret_of (.tuple #[(zi p5), (zi 0)]) (by kernel_rfl) ⟨_, ⟨rfl, rfl⟩, hs10⟩
end Go.Proofs.Ytmmclabkkigiaaa

namespace Go.Proofs.Ytmmclabkkigiaaa
open Go Go.Shelf
def strRen156 : Ren :=
  {
    f := fun x =>
      match x with
      | 156 => 22
      | 165 => 38
      | 166 => 39
      | 169 => 40
      | 240 => 52
      | 241 => 53
      | 276 => 67
      | 277 => 68
      | n => n,
    t := fun x =>
      match x with
      | 31 => 22
      | 9 => 9
      | 3 => 3
      | 4 => 4
      | 0 => 0
      | 20 => 20
      | 72 => 77
      | 76 => 81
      | 70 => 74
      | 37 => 75
      | 75 => 80
      | 127 => 97
      | 164 => 120
      | 5 => 5
      | 80 => 83
      | n => n,
    g := fun x =>
      x }
theorem strLays156 : Lays.n156 Try.prog strRen156 :=
  { mixed := rfl, f156 := Try.func22.trans (congrArg some (by kernel_rfl)), f165 := Try.func38.trans (congrArg some (by kernel_rfl)), f166 := Try.func39.trans (congrArg some (by kernel_rfl)), f169 := Try.func40.trans (congrArg some (by kernel_rfl)), f240 := Try.func52.trans (congrArg some (by kernel_rfl)), f241 := Try.func53.trans (congrArg some (by kernel_rfl)), f276 := Try.func67.trans (congrArg some (by kernel_rfl)), f277 := Try.func68.trans (congrArg some (by kernel_rfl)), t0 := Try.underlying0, a0 := Try.isAgg0, z0 := Try.sizeOf0, v0 := Try.zeroValue0, t3 := Try.underlying3, a3 := Try.isAgg3, z3 := Try.sizeOf3, v3 := Try.zeroValue3, t4 := Try.underlying4, a4 := Try.isAgg4, z4 := Try.sizeOf4, v4 := Try.zeroValue4, t9 := Try.underlying9, a9 := Try.isAgg9, z9 := Try.sizeOf9, v9 := Try.zeroValue9, t20 := Try.underlying20, a20 := Try.isAgg20, z20 := Try.sizeOf20, v20 := Try.zeroValue20, t31 := Try.underlying22, a31 := Try.isAgg22, z31 := Try.sizeOf22, v31 := Try.zeroValue22, t37 := Try.underlying75, a37 := Try.isAgg75, z37 := Try.sizeOf75, v37 := Try.zeroValue75, t70 := Try.underlying74, a70 := Try.isAgg74, z70 := Try.sizeOf74, v70 := Try.zeroValue74, t72 := Try.underlying77, a72 := Try.isAgg77, z72 := Try.sizeOf77, v72 := Try.zeroValue77, t75 := Try.underlying80, a75 := Try.isAgg80, z75 := Try.sizeOf80, v75 := Try.zeroValue80, t76 := Try.underlying81, a76 := Try.isAgg81, z76 := Try.sizeOf81, v76 := Try.zeroValue81, t127 := Try.underlying97, a127 := Try.isAgg97, z127 := Try.sizeOf97, v127 := Try.zeroValue97, t164 := Try.underlying120, a164 := Try.isAgg120, z164 := Try.sizeOf120, v164 := Try.zeroValue120 }
end Go.Proofs.Ytmmclabkkigiaaa

namespace Go.Proofs.Ytmmclabkkigiaaa
open Go Go.RowKit Go.Shelf
def idx47 (s : ByteArray) : Int := Lib.indexByte s.data.toList 47
theorem idxb_spec {s : ByteArray} (B : Nat) (w : World) : Spec Try.prog 78 #[.string s, .int .u8 47] B w [] (fun v H' => v = .int .i64 (idx47 s) ∧ H' = []) :=
  Spec.ofBelow ((Any.stringslite_IndexByte { strLays150 with } s 47 w).mono fun e w' ⟨h1, h2⟩ => ⟨h1, h2 ▸ Below.refl _ _⟩)
def joinB (xs : List ByteArray) : ByteArray := ⟨(Lib.join (xs.map (·.data.toList)) [47]).toArray⟩
theorem bextra : Builder.Extra Try.prog strRen156 where
  sizeBuilder := by kernel_rfl
  liesBuilder := by kernel_rfl
  t5 := Try.underlying5
  a5 := Try.isAgg5
  z5 := Try.sizeOf5
  v5 := Try.zeroValue5
  infoByte := by kernel_rfl
  cellsByte := by kernel_rfl
  sizeByte := by kernel_rfl
  neB5 := by decide
theorem kstr_get (xs : List ByteArray) (j : Nat) : (kStr.cells xs)[j]? = (xs[j]?).map Value.string := by
  have : kStr.cells xs = xs.map Value.string := by
    unfold Kind.cells kStr
    induction xs with
    | nil => rfl
    | cons x xs ih => simp only [List.flatMap_cons, List.map_cons] at ih ⊢; rw [ih]; rfl
  rw [this, List.getElem?_map]
theorem join_spec {a : Option Addr} {c : Nat} {xs : List ByteArray} (B : Nat) (w : World) (hx : CellsAt a (kStr.cells xs) w) (hc : xs.length ≤ c) (hn : xs.length ≤ 1000000) (hl : (joinB xs).size ≤ 1000000000) :
    Spec Try.prog 22 #[.slice a xs.length c, .string (ByteArray.mk #[47])] B w [] (fun v H' => v = .string (joinB xs) ∧ H' = []) := by
  refine Spec.ofBelow ?_
  by_cases h0 : xs = []
  · subst h0
    exact (Any.strings_Join_none strLays156 bextra a c (ByteArray.mk #[47]) w).mono fun e w' ⟨h1, h2⟩ => ⟨h1, h2 ▸ Below.refl _ _⟩
  · have hlt : 0 < xs.length := List.length_pos_iff.2 h0
    cases a with
    | none =>
      have h1 : kStr.cells xs = [] := hx
      have h2 := kstr_get xs 0
      rw [h1, List.getElem?_eq_getElem hlt] at h2
      cases h2
    | some ad =>
      have each : ∀ (j : Nat) x, xs[j]? = some x → w.cell? (ad.add j) = some (.string x) := fun j x hj => hx j _ (by rw [kstr_get, hj]; rfl)
      have hc0 := each 0 xs[0] (List.getElem?_eq_getElem hlt)
      have e0 : ad.add 0 = ad := rfl
      rw [e0] at hc0
      have hsp := World.cell?_spot hc0
      obtain ⟨bk, o, sp⟩ := ad
      simp only at hsp
      subst hsp
      have hb : bk < w.heap.size := by
        unfold World.cell? at hc0
        split at hc0
        · rename_i h; exact (Array.getElem?_eq_some_iff.1 h).1
        · cases hc0
      refine Any.strings_Join strLays156 bextra bk o c xs (ByteArray.mk #[47]) w (fun j x hj => ?_) hb (by omega) hc ?_
      · have := each j x hj
        unfold Addr.add at this
        split at this
        · rename_i hj0; subst hj0; exact this
        · exact this
      · have : (joinB xs).size = (Lib.join (xs.map (·.data.toList)) [47]).length := by unfold joinB; simp [ByteArray.size]
        show (Lib.join (xs.map (·.data.toList)) [47]).length ≤ _
        omega
end Go.Proofs.Ytmmclabkkigiaaa

set_option maxRecDepth 20000
set_option maxHeartbeats 1000000
namespace Go.Proofs.Ytmmclabkkigiaaa
open Go Go.RowKit
def sindex_M (tx_ : ByteArray) : Option (Int) :=
 if ((ByteArray.mk #[47]).toList == tx_.toList) = true then (some 0) else (need ((0 : Int) ≤ 0 ∧ 0 < ((ByteArray.mk #[47]).size : Int)) <|
some (idx47 tx_))
theorem sindex_walk {tx_ : ByteArray}  {r : Int} (B : Nat) (w : World) (hm : sindex_M tx_ = some r) : Spec Try.prog 66 #[(.string tx_), (.string (ByteArray.mk #[47]))] B w [] (fun v H' => v = .int .i64 r ∧ H' = []) := by
 refine spec_Q Try.func66 rfl fun hs => ?_
 unfold sindex_M at hm
 refine W.sr fun K1 hK1 => ?_
 refine zE 1 (hK1 _ _ ?_)
 refine W.sr fun K2 hK2 => ?_
 refine zE 3 (hK2 _ _ ?_)
 refine W.seq fun K3 hK3 => ?_
 refine W.block ?_
 refine W.sr fun K4 hK4 => ?_
 refine zE 8 (hK4 _ _ ?_)
 refine W.cond ((ByteArray.mk #[47]).toList == tx_.toList) (by kernel_rfl) (fun h5 => ?_) (fun h5 => ?_)
 ·
  have h5p : ((ByteArray.mk #[47]).toList == tx_.toList) = true := h5
  replace hm := ite_yes hm h5p
  refine W.sr fun K6 hK6 => ?_
  refine zE 1 (hK6 _ _ ?_)
  refine W.ret (ret_block (ret_seq ?_))
  obtain rfl := some_inj hm
  refine ret_of (zi 0) (by kernel_rfl) ⟨_, ⟨rfl, rfl⟩, hs⟩
 have h5p : ¬ (((ByteArray.mk #[47]).toList == tx_.toList) = true) := ne_true_of_eq_false h5
 replace hm := ite_no hm h5p
 refine W.sr fun K7 hK7 => ?_
 refine zE 3 (hK7 _ _ ?_)
 refine W.cond_true true (by kernel_rfl) rfl ?_
 refine W.sr fun K8 hK8 => ?_
 refine zR 2 ?_
 obtain ⟨h9, hm⟩ := need_some hm
 refine ops_R (v := (.int .u8 (sbyte (ByteArray.mk #[47]) 0))) (runs_strIdx (b := (ByteArray.mk #[47])) (k := 0) h9 (by kernel_rfl)) ?_
 refine zC00 hs (idxb_spec (s := tx_) B _) fun w10 hs12 => ?_
 refine zE 1 (hK8 _ _ ?_)
 refine W.ret (ret_block (ret_seq ?_))
 obtain rfl := some_inj hm
 refine ret_of (zi (idx47 tx_)) (by kernel_rfl) ⟨_, ⟨rfl, rfl⟩, hs12⟩
end Go.Proofs.Ytmmclabkkigiaaa

set_option maxRecDepth 20000
set_option maxHeartbeats 1000000
namespace Go.Proofs.Ytmmclabkkigiaaa
open Go Go.RowKit
def slcut_M (tx_ : ByteArray) : Option (ByteArray × ByteArray × Bool) :=
 (sindex_M tx_).bind fun r4 =>
if r4 ≥ 0 then (need ((0 : Int) ≤ 0 ∧ (0 : Int) ≤ r4 ∧ r4 ≤ (tx_.size : Int)) <|
need (-9223372036854775808 ≤ (r4 + 1) ∧ (r4 + 1) ≤ 9223372036854775807) <|
need ((0 : Int) ≤ (r4 + 1) ∧ ((r4 + 1) : Int) ≤ (tx_.size : Int) ∧ (tx_.size : Int) ≤ (tx_.size : Int)) <|
some ((tx_.extract 0 r4.toNat), (tx_.extract ((r4 + 1).toNat) tx_.size), true)) else (some (tx_, ByteArray.empty, false))
theorem slcut_walk {tx_ : ByteArray}  {r : ByteArray × ByteArray × Bool} (B : Nat) (w : World) (hm : slcut_M tx_ = some r) : Spec Try.prog 51 #[(.string tx_), (.string (ByteArray.mk #[47]))] B w [] (fun v H' => v = (.tuple #[(.string r.1), (.string r.2.1), (.bool r.2.2)]) ∧ H' = []) := by
 refine spec_Q Try.func51 rfl fun hs => ?_
 unfold slcut_M at hm
 refine W.sr fun K1 hK1 => ?_
 refine zE 3 (hK1 _ _ ?_)
 refine W.seq fun K2 hK2 => ?_
 refine W.sr fun K3 hK3 => ?_
 refine zR 2 ?_
 obtain ⟨r4, h5, hm⟩ := bind_some hm
 refine zC00 hs (sindex_walk (tx_ := tx_) (hm := h5) B _) fun w6 hs8 => ?_
 refine zE 1 (hK3 _ _ ?_)
 refine W.sr fun K9 hK9 => ?_
 refine zE 2 (hK9 _ _ ?_)
 refine W.cond (decide (r4 ≥ 0)) (by kernel_rfl) (fun h10 => ?_) (fun h10 => ?_)
 ·
  obtain ⟨h10p, hm⟩ := iY hm h10
  refine W.seq fun K11 hK11 => ?_
  have hs12 := hs8.drew
  refine W.regionD [(0, 0), (0, 0), (3, 3), (0, 0), (0, 0), (0, 0), (32, 32), (80, 80), (136, 136), (7, 4), (1023, 256), (2047, 0)] (fun w_ => St B w [] w_ []) (by kernel_rfl) hs12 ?_
  refine zA (.string tx_) 0 hs12 ?_
  refine zA (zi r4) 1 hs12 ?_
  obtain ⟨h13, hm⟩ := need_some hm
  refine any_R (v := (.string (tx_.extract 0 r4.toNat))) 2 (by kernel_rfl) (fun _ hS_ => runs_strSlice (b := tx_) (lo := none) (hi := (some r4)) 0 r4.toNat (.inr ⟨rfl, rfl⟩) (.inl (congrArg some (nat_of (Int.le_trans h13.1 h13.2.1)))) (by omega) (by omega) (by kernel_rfl)) hs12 ?_
  refine zA (.string tx_) 3 hs12 ?_
  refine zA (zi r4) 4 hs12 ?_
  refine zA (.string (ByteArray.mk #[47])) 5 hs12 ?_
  refine zA (zi 1) 6 hs12 ?_
  obtain ⟨h14, hm⟩ := need_some hm
  refine any_val (v := .int .i64 (IntKind.i64.wrap (r4 + 1))) (v' := .int .i64 (r4 + 1)) 7 (by kernel_rfl) (fun _ => by kernel_rfl) (congrArg (Value.int .i64) (wrap_i64 h14.1 h14.2)) hs12 ?_
  obtain ⟨h15, hm⟩ := need_some hm
  refine any_R (v := (.string (tx_.extract ((r4 + 1).toNat) tx_.size))) 8 (by kernel_rfl) (fun _ hS_ => runs_strSlice (b := tx_) (lo := (some (r4 + 1))) (hi := none) ((r4 + 1).toNat) tx_.size (.inl (congrArg some (nat_of h15.1))) (.inr ⟨rfl, rfl⟩) (by omega) (by omega) (by kernel_rfl)) hs12 ?_
  refine zA (.string (tx_.extract 0 r4.toNat)) 9 hs12 ?_
  refine zA (.string (tx_.extract ((r4 + 1).toNat) tx_.size)) 10 hs12 ?_
  refine zA (.bool true) 11 hs12 ?_
  refine any_done (by kernel_rfl) ?_
  refine hK11 _ _ ?_
  refine W.ret (ret_seq ?_)
  obtain rfl := some_inj hm
  refine ret_of (.tuple #[(.string (tx_.extract 0 r4.toNat)), (.string (tx_.extract ((r4 + 1).toNat) tx_.size)), (.bool true)]) (by kernel_rfl) ⟨_, ⟨rfl, rfl⟩, hs12⟩
 obtain ⟨h10p, hm⟩ := iN hm h10
 refine W.skip ?_
 refine hK2 _ _ ?_
 refine W.sr fun K16 hK16 => ?_
 refine zE 4 (hK16 _ _ ?_)
 refine W.ret ?_
 obtain rfl := some_inj hm
 refine ret_of (.tuple #[(.string tx_), (.string ByteArray.empty), (.bool false)]) (by kernel_rfl) ⟨_, ⟨rfl, rfl⟩, hs8⟩
end Go.Proofs.Ytmmclabkkigiaaa

set_option maxRecDepth 20000
set_option maxHeartbeats 1000000
namespace Go.Proofs.Ytmmclabkkigiaaa
open Go Go.RowKit
def scut_M (tx_ : ByteArray) : Option (ByteArray × ByteArray × Bool) :=
 (slcut_M tx_).bind fun r3 =>
some (r3.1, r3.2.1, r3.2.2)
theorem scut_walk {tx_ : ByteArray}  {r : ByteArray × ByteArray × Bool} (B : Nat) (w : World) (hm : scut_M tx_ = some r) : Spec Try.prog 37 #[(.string tx_), (.string (ByteArray.mk #[47]))] B w [] (fun v H' => v = (.tuple #[(.string r.1), (.string r.2.1), (.bool r.2.2)]) ∧ H' = []) := by
 refine spec_Q Try.func37 rfl fun hs => ?_
 unfold scut_M at hm
 refine W.sr fun K1 hK1 => ?_
 refine zE 3 (hK1 _ _ ?_)
 refine W.sr fun K2 hK2 => ?_
 refine zR 2 ?_
 obtain ⟨r3, h4, hm⟩ := bind_some hm
 refine zC00 hs (slcut_walk (tx_ := tx_) (hm := h4) B _) fun w5 hs7 => ?_
 refine zE 6 (hK2 _ _ ?_)
 refine W.ret ?_
 obtain rfl := some_inj hm
 refine ret_of (.tuple #[(.string r3.1), (.string r3.2.1), (.bool r3.2.2)]) (by kernel_rfl) ⟨_, ⟨rfl, rfl⟩, hs7⟩
end Go.Proofs.Ytmmclabkkigiaaa

namespace Go.Proofs.Ytmmclabkkigiaaa
open Go Go.RowKit
theorem idx_lt : ∀ l : List UInt8, -1 ≤ Lib.indexByte l 47 ∧ Lib.indexByte l 47 < (l.length : Int)
  | [] => by simp [Lib.indexByte]
  | b :: l => by
    have ih := idx_lt l
    unfold Lib.indexByte
    simp only [List.length_cons]
    split
    · omega
    · split <;> omega
theorem idx47_range (s : ByteArray) : -1 ≤ idx47 s ∧ idx47 s < (s.size : Int) := by
  have := idx_lt s.data.toList
  have e : s.data.toList.length = s.size := by rw [Array.length_toList]; rfl
  unfold idx47
  omega
theorem beq_toList {a b : ByteArray} : (a.toList == b.toList) = true ↔ a = b := by
  rw [ByteArray.toList_eq, ByteArray.toList_eq, beq_iff_eq]
  constructor
  · intro h
    cases a; cases b
    congr 1
    exact Array.toList_inj.1 h
  · rintro rfl; rfl
def cut1 (s : ByteArray) : ByteArray × ByteArray × Bool :=
  if idx47 s ≥ 0 then (s.extract 0 (idx47 s).toNat, s.extract (idx47 s + 1).toNat s.size, true) else (s, ByteArray.empty, false)
theorem idx47_one : idx47 (ByteArray.mk #[47]) = 0 := by decide
theorem sindex_eq (s : ByteArray) : sindex_M s = some (idx47 s) := by
  unfold sindex_M
  by_cases h : (ByteArray.mk #[47]) = s
  · subst h
    rw [if_pos (beq_toList.2 rfl), idx47_one]
  · rw [if_neg fun q => h (beq_toList.1 q)]
    exact need_of (by decide) rfl
theorem cut_eq {s : ByteArray} (hs : s.size ≤ 1000000) : scut_M s = some (cut1 s) := by
  have hr := idx47_range s
  unfold scut_M slcut_M
  refine bind_of (y := cut1 s) (bind_of (sindex_eq s) ?_) rfl
  unfold cut1
  by_cases h : idx47 s ≥ 0
  · rw [if_pos h, if_pos h]
    exact need_of (by omega) (need_of (by omega) (need_of (by omega) rfl))
  · rw [if_neg h, if_neg h]
theorem cut_spec {s : ByteArray} (hs : s.size ≤ 1000000) (B : Nat) (w : World) : Spec Try.prog 37 #[.string s, .string (ByteArray.mk #[47])] B w [] (fun v H' => v = .tuple #[.string (cut1 s).1, .string (cut1 s).2.1, .bool (cut1 s).2.2] ∧ H' = []) :=
  scut_walk B w (cut_eq hs)
def restB (s : ByteArray) : Nat → ByteArray
  | 0 => s
  | k + 1 => (cut1 (restB s k)).2.1
def moreB (s : ByteArray) : Nat → Bool
  | 0 => true
  | k + 1 => (cut1 (restB s k)).2.2
def partAt (s : ByteArray) (k : Nat) : ByteArray := (cut1 (restB s k)).1
theorem cut_size (s : ByteArray) : (cut1 s).2.1.size ≤ s.size ∧ ((cut1 s).2.2 = true → (cut1 s).2.1.size < s.size) := by
  have hr := idx47_range s
  unfold cut1
  split
  · simp only [ByteArray.size_extract]
    omega
  · simp
theorem restB_size (s : ByteArray) : ∀ k, (restB s k).size ≤ s.size
  | 0 => Nat.le_refl _
  | k + 1 => Nat.le_trans (cut_size (restB s k)).1 (restB_size s k)
def nFrom (s : ByteArray) : Nat → Nat → Nat
  | 0, k => k
  | t + 1, k => if moreB s k = true then nFrom s t (k + 1) else k
def nParts (s : ByteArray) : Nat := nFrom s (s.size + 2) 0
theorem nFrom_le (s : ByteArray) : ∀ t k, k ≤ nFrom s t k ∧ nFrom s t k ≤ k + t
  | 0, k => ⟨Nat.le_refl _, Nat.le_refl _⟩
  | t + 1, k => by
    have := nFrom_le s t (k + 1)
    unfold nFrom
    split <;> omega
theorem nFrom_lt (s : ByteArray) : ∀ t k j, k ≤ j → j < nFrom s t k → moreB s j = true
  | 0, k, j, h1, h2 => by unfold nFrom at h2; omega
  | t + 1, k, j, h1, h2 => by
    unfold nFrom at h2
    split at h2
    · rename_i hk
      by_cases e : j = k
      · rw [e]; exact hk
      · exact nFrom_lt s t (k + 1) j (by omega) h2
    · omega
theorem nFrom_end (s : ByteArray) : ∀ t k, nFrom s t k < k + t → moreB s (nFrom s t k) = false
  | 0, k, h => by unfold nFrom at h; omega
  | t + 1, k, h => by
    unfold nFrom at h ⊢
    split at h
    · rename_i hk
      rw [if_pos hk]
      exact nFrom_end s t (k + 1) (by omega)
    · rename_i hk
      rw [if_neg hk]
      cases hm : moreB s k with
      | true => exact absurd hm hk
      | false => rfl
theorem more_size (s : ByteArray) : ∀ k, (∀ j, j ≤ k → moreB s j = true) → (restB s k).size + k ≤ s.size
  | 0, _ => Nat.le_refl _
  | k + 1, h => by
    have ih := more_size s k fun j hj => h j (by omega)
    have h1 := h (k + 1) (Nat.le_refl _)
    have h2 := (cut_size (restB s k)).2 h1
    show (cut1 (restB s k)).2.1.size + (k + 1) ≤ s.size
    omega
theorem parts_end (s : ByteArray) : moreB s (nParts s) = false ∧ nParts s ≤ s.size + 1 ∧ 1 ≤ nParts s := by
  have hle := nFrom_le s (s.size + 2) 0
  have hall : ∀ j, j < nParts s → moreB s j = true := fun j hj => nFrom_lt s _ 0 j (Nat.zero_le _) hj
  have hn : nParts s ≤ s.size + 1 := by
    by_cases h : nParts s ≤ s.size + 1
    · exact h
    · have := more_size s (s.size + 1) fun j hj => hall j (by omega)
      omega
  refine ⟨nFrom_end s _ 0 (by unfold nParts at hn; omega), hn, ?_⟩
  have : nParts s = nFrom s (s.size + 1) 1 := by
    show (if moreB s 0 = true then nFrom s (s.size + 1) (0 + 1) else 0) = _
    rw [if_pos (show moreB s 0 = true from rfl)]
  have := nFrom_le s (s.size + 1) 1
  omega
theorem more_lt {s : ByteArray} {k : Nat} (hk : k ≤ nParts s) (h : moreB s k = true) : k < nParts s := by
  by_cases e : k = nParts s
  · rw [e, (parts_end s).1] at h
    cases h
  · omega
theorem more_end {s : ByteArray} {k : Nat} (hk : k ≤ nParts s) (h : ¬ (moreB s k = true)) : k = nParts s := by
  by_cases e : k < nParts s
  · exact absurd (nFrom_lt s _ 0 k (Nat.zero_le _) e) h
  · omega
theorem more_end' {s : ByteArray} {k : Nat} (hk : k ≤ nParts s) (h : moreB s k = false) : k = nParts s := more_end hk (by rw [h]; decide)
end Go.Proofs.Ytmmclabkkigiaaa

set_option maxRecDepth 20000
set_option maxHeartbeats 2000000
namespace Go.Proofs.Ytmmclabkkigiaaa
open Go Go.RowKit
theorem parts_spec {tx_ : ByteArray} (B : Nat) (w : World) : Spec Try.prog 20 #[(.string tx_)] B w [] (fun v H' => ∃ b1, v = .func (.func 36) #[] #[ptr b1] ∧ H' = [zb b1 9 [(.string tx_)]]) := by
 refine spec_Q Try.func20 rfl fun hs => ?_
 refine W.sr fun K1 hK1 => ?_
 refine zN [(.string tx_)] 9 hs fun b4 w2 hs3 => ?_
 refine zE 1 (hK1 _ _ ?_)
 refine W.sr fun K5 hK5 => ?_
 refine zE 2 (hK5 _ _ ?_)
 refine W.ret ?_
 refine ret_of (.func (.func 36) #[] #[(zp b4)]) (by kernel_rfl) ⟨_, ⟨b4, rfl, rfl⟩, hs3⟩
theorem parts1_spec {c1 yl : Nat} {tx_ : ByteArray} {Y : Nat → Asn} {Z : Asn} (B : Nat) (w : World) (hbm : tx_.size ≤ 1000000) (hy : ∀ k : Nat, k < nParts tx_ → ∀ w', YSpec Try.prog yl #[.string (partAt tx_ k)] B w' [Y k] (fun v H' => (v = .bool true ∧ H' = [Y (k + 1)]) ∨ (v = .bool false ∧ H' = [Z]))) : Spec Try.prog 36 #[(.func (.yield yl) #[] #[]), (zp c1)] B w [zb c1 9 [(.string tx_)], Y 0] (fun v H' => v = .tuple #[] ∧ (H' = [zb c1 9 [(.string tx_)], Y (nParts tx_)] ∨ H' = [zb c1 9 [(.string tx_)], Z])) := by
 refine spec_W Try.func36 rfl fun l0 hs => ?_
 refine W.sr fun K1 hK1 => ?_
 refine zL ⟨c1, 0, none⟩ (.string tx_) (hs.cellAt 0 rfl rfl) ?_
 refine zE 2 (hK1 _ _ ?_)
 refine W.block ?_
 refine W.loop (G := Nat) (fun | k, s_, w_ => (∃ us, s_ = slots 18 [(0, (.func (.yield yl) #[] #[])), (3, (.string (restB tx_ k))), (4, (.bool (moreB tx_ k)))] us) ∧ St B w l0 w_ [zb c1 9 [(.string tx_)], Y k] ∧ (k ≤ nParts tx_)) (fun k => nParts tx_ - k) 0 ⟨slots_intro _ (by kernel_rfl), hs, by omega⟩ ?_
 rintro k _ w2 ⟨⟨us, rfl⟩, hs3, hk0⟩
 refine W.seq fun K4 hK4 => ?_
 refine W.sr fun K5 hK5 => ?_
 refine zE 1 (hK5 _ _ ?_)
 refine W.cond (moreB tx_ k) (by kernel_rfl) (fun h6 => ?_) (fun h6 => ?_)
 ·
  have h6p : (moreB tx_ k) = true := h6
  have hlt_ : k < nParts tx_ := more_lt hk0 h6p
  refine W.skip ?_
  refine hK4 _ _ ?_
  refine W.block ?_
  refine W.sr fun K7 hK7 => ?_
  refine zE 1 (hK7 _ _ ?_)
  refine W.sr fun K8 hK8 => ?_
  refine zR 1 ?_
  refine zC00 hs3 (cut_spec (s := (restB tx_ k)) (hs := Nat.le_trans (restB_size tx_ k) hbm) B _) fun w9 hs11 => ?_
  refine zE 7 (hK8 _ _ ?_)
  refine W.sr fun K12 hK12 => ?_
  refine zR 2 ?_
  have hs13 := St.f1 hs11
  refine ops_yield (pre := [Y k]) (l := yl) hs13 (by kernel_rfl) (by kernel_rfl) (hy k hlt_ _) ?_
  rintro _ _ w14 (⟨rfl, rfl⟩ | ⟨rfl, rfl⟩) hs15
  ·
   have hs16 : St B w l0 w14 [Y (k + 1), zb c1 9 [(.string tx_)]] := hs15
   refine zE 1 (hK12 _ _ ?_)
   refine W.cond_false false (by kernel_rfl) rfl ?_
   refine W.skip ?_
   refine normal_block ?_
   have hs17 := St.f1 hs16
   exact ⟨k + 1, ⟨slots_intro _ (by kernel_rfl), hs17, by omega⟩, by omega⟩
  have hs18 : St B w l0 w14 [Z, zb c1 9 [(.string tx_)]] := hs15
  refine zE 1 (hK12 _ _ ?_)
  refine W.cond_true true (by kernel_rfl) rfl ?_
  refine W.ret (ret_block (ret_seq (ret_block ?_)))
  have hs19 := St.f1 hs18
  refine ret_of (.tuple #[]) (by kernel_rfl) ⟨_, ⟨rfl, .inr rfl⟩, hs19⟩
 have h6p : (moreB tx_ k) = false := h6
 refine W.exit (exit_seq (exit_seq (exit_here ?_)))
 have hn_ : k = nParts tx_ := more_end' hk0 h6p
 subst hn_
 refine ret_ofN (.tuple #[]) (by kernel_rfl) ⟨_, ⟨rfl, .inl rfl⟩, hs3⟩
end Go.Proofs.Ytmmclabkkigiaaa

set_option maxRecDepth 20000
set_option maxHeartbeats 1000000
namespace Go.Proofs.Ytmmclabkkigiaaa
open Go Go.RowKit
def slhas_M (tx_ : ByteArray) : Option (Bool) :=
 if (tx_.size : Int) ≥ 1 then (need ((0 : Int) ≤ 0 ∧ (0 : Int) ≤ 1 ∧ 1 ≤ (tx_.size : Int)) <|
some ((tx_.extract 0 1).toList == (ByteArray.mk #[47]).toList)) else (some false)
theorem slhas_walk {tx_ : ByteArray}  {r : Bool} (B : Nat) (w : World) (hm : slhas_M tx_ = some r) : Spec Try.prog 35 #[(.string tx_), (.string (ByteArray.mk #[47]))] B w [] (fun v H' => v = .bool r ∧ H' = []) := by
 refine spec_Q Try.func35 rfl fun hs => ?_
 unfold slhas_M at hm
 refine W.sr fun K1 hK1 => ?_
 refine zE 1 (hK1 _ _ ?_)
 refine W.sr fun K2 hK2 => ?_
 refine zR 6 ?_
 rcases Bool.eq_false_or_eq_true (decide ((tx_.size : Int) ≥ 1)) with h3 | h3
 ·
  obtain ⟨h3p, hm⟩ := iY hm h3
  refine zS 10 h3 ?_
  refine zS 9 h3 ?_
  refine zR 3 ?_
  obtain ⟨h4, hm⟩ := need_some hm
  refine ops_R (v := (.string (tx_.extract 0 1))) (runs_strSlice (b := tx_) (lo := none) (hi := (some 1)) 0 1 (.inr ⟨rfl, rfl⟩) (.inl (congrArg some rfl)) (by omega) (by omega) (by kernel_rfl)) ?_
  refine zE 4 (hK2 _ _ ?_)
  refine W.ret ?_
  obtain rfl := some_inj hm
  refine ret_of (.bool ((tx_.extract 0 1).toList == (ByteArray.mk #[47]).toList)) (by kernel_rfl) ⟨_, ⟨rfl, rfl⟩, hs⟩
 obtain ⟨h3p, hm⟩ := iN hm h3
 refine zS 10 h3 ?_
 refine zS 9 h3 ?_
 refine zE 8 (hK2 _ _ ?_)
 refine W.ret ?_
 obtain rfl := some_inj hm
 refine ret_of (.bool false) (by kernel_rfl) ⟨_, ⟨rfl, rfl⟩, hs⟩
end Go.Proofs.Ytmmclabkkigiaaa

set_option maxRecDepth 20000
set_option maxHeartbeats 1000000
namespace Go.Proofs.Ytmmclabkkigiaaa
open Go Go.RowKit
def shas_M (tx_ : ByteArray) : Option (Bool) :=
 (slhas_M tx_).bind fun r3 =>
some r3
theorem shas_walk {tx_ : ByteArray}  {r : Bool} (B : Nat) (w : World) (hm : shas_M tx_ = some r) : Spec Try.prog 19 #[(.string tx_), (.string (ByteArray.mk #[47]))] B w [] (fun v H' => v = .bool r ∧ H' = []) := by
 refine spec_Q Try.func19 rfl fun hs => ?_
 unfold shas_M at hm
 refine W.sr fun K1 hK1 => ?_
 refine zE 1 (hK1 _ _ ?_)
 refine W.sr fun K2 hK2 => ?_
 refine zR 2 ?_
 obtain ⟨r3, h4, hm⟩ := bind_some hm
 refine zC00 hs (slhas_walk (tx_ := tx_) (hm := h4) B _) fun w5 hs7 => ?_
 refine zE 1 (hK2 _ _ ?_)
 refine W.ret ?_
 obtain rfl := some_inj hm
 refine ret_of (.bool r3) (by kernel_rfl) ⟨_, ⟨rfl, rfl⟩, hs7⟩
end Go.Proofs.Ytmmclabkkigiaaa

set_option maxRecDepth 20000
set_option maxHeartbeats 4000000
namespace Go.Proofs.Ytmmclabkkigiaaa
open Go Go.RowKit
def psplit_D51 (q49 : List ByteArray) : Option (List ByteArray × Int) :=
 some (q49, 0)
def psplit_X51  : Option (List ByteArray × Int) :=
 some ([], 13)
def psplit_R51 (tx_ : ByteArray) (k45 : Nat) (c46 : (List ByteArray) → Option (List ByteArray × Int)) (q49 : List ByteArray) : Option (List ByteArray × Int) :=
 (emay_M (partAt (tx_.extract 1 tx_.size) k45)).bind fun r106 =>
if r106 = true then (need (q49.length + 1 ≤ 1000000000) <|
c46 (q49 ++ [(partAt (tx_.extract 1 tx_.size) k45)])) else (psplit_X51)
def psplit_J1 (tx_ : ByteArray) (p9 : Bool) : Option (List ByteArray × Int) :=
 if p9 = true then (some ([], 13)) else (if (tx_.toList == (ByteArray.mk #[47]).toList) = true then (some ([], 0)) else (need ((0 : Int) ≤ 1 ∧ (1 : Int) ≤ (tx_.size : Int) ∧ (tx_.size : Int) ≤ (tx_.size : Int)) <|
need ((tx_.extract 1 tx_.size).size ≤ 1000000) <|
rounds (fun k_ c_ s_ => psplit_R51 tx_ k_ c_ s_) (fun s_ => psplit_D51 s_) (nParts (tx_.extract 1 tx_.size)) 0 ([])))
def psplit_M (tx_ : ByteArray) : Option (List ByteArray × Int) :=
 if (tx_.size : Int) > 200 then (psplit_J1 tx_ true) else ((shas_M tx_).bind fun r144 =>
psplit_J1 tx_ (!r144))
theorem psplit_walk {tx_ : ByteArray}  {r : List ByteArray × Int} (B : Nat) (w : World) (hm : psplit_M tx_ = some r) : Spec Try.prog 7 #[(.string tx_)] B w [] (fun v H' => ∃ a' c', v = .tuple #[.slice a' r.1.length c', .int .i64 r.2] ∧ H' = [kStr.row a' c' r.1]) := by
 refine spec_Q Try.func7 rfl fun hs => ?_
 unfold psplit_M at hm
 refine W.sr fun K1 hK1 => ?_
 refine zN [(.slice none 0 0)] 22 hs fun b4 w2 hs3 => ?_
 refine zN [(zi 0)] 24 hs3 fun b7 w5 hs6 => ?_
 refine zD (hK1 _ _ ?_)
 refine W.seq fun K8 hK8 => ?_
 refine W.seq_join (fun s_ w_ => ∃ (p9 : Bool), (∃ us, s_ = slots 27 [(0, (.string tx_)), (2, (zp b4)), (3, (zp b7)), (12, (.bool p9))] us) ∧ St B w [] w_ [zb b4 22 [(.slice none 0 0)], zb b7 24 [(zi 0)]] ∧ psplit_J1 tx_ p9 = some r) ?_ ?_
 ·
  rintro _ w10 ⟨p9, ⟨us, rfl⟩, hs11, hm⟩
  unfold psplit_J1 at hm
  refine W.cond p9 (by kernel_rfl) (fun h12 => ?_) (fun h12 => ?_)
  ·
   have h12p : p9 = true := h12
   replace hm := ite_yes hm h12p
   refine W.sr fun K13 hK13 => ?_
   refine zT 0 [(.slice none 0 0)] [(.slice none 0 0)] hs11 fun w14 hs16 => ?_
   have hs19 := St.f1 hs16
   refine zT 0 [(zi 13)] [(zi 13)] hs19 fun w17 hs20 => ?_
   refine zD (hK13 _ _ ?_)
   refine W.ret (ret_seq ?_)
   have hs21 := St.knil kStr hs20
   obtain rfl := some_inj hm
   have hs22 := St.tk1 hs21
   refine ret_of (.tuple #[(.slice none 0 0), (zi 13)]) (resS_of (by kernel_rfl) (resD_two rfl (.cell (ad := ⟨b4, 0, none⟩) (by kernel_rfl) (by kernel_rfl) (hs21.cellAt 2 rfl rfl)) (.cell (ad := ⟨b7, 0, none⟩) (by kernel_rfl) (by kernel_rfl) (hs21.cellAt 1 rfl rfl)))) ⟨_, ⟨none, 0, rfl, rfl⟩, hs22⟩
  have h12p : ¬ (p9 = true) := ne_true_of_eq_false h12
  replace hm := ite_no hm h12p
  refine W.skip ?_
  refine hK8 _ _ ?_
  refine W.seq fun K23 hK23 => ?_
  refine W.sr fun K24 hK24 => ?_
  refine zE 2 (hK24 _ _ ?_)
  refine W.cond (tx_.toList == (ByteArray.mk #[47]).toList) (by kernel_rfl) (fun h25 => ?_) (fun h25 => ?_)
  ·
   have h25p : (tx_.toList == (ByteArray.mk #[47]).toList) = true := h25
   replace hm := ite_yes hm h25p
   refine W.sr fun K26 hK26 => ?_
   refine zT 0 [(.slice none 0 0)] [(.slice none 0 0)] hs11 fun w27 hs29 => ?_
   have hs32 := St.f1 hs29
   refine zT 0 [(zi 0)] [(zi 0)] hs32 fun w30 hs33 => ?_
   refine zD (hK26 _ _ ?_)
   refine W.ret (ret_seq ?_)
   have hs34 := St.knil kStr hs33
   obtain rfl := some_inj hm
   have hs35 := St.tk1 hs34
   refine ret_of (.tuple #[(.slice none 0 0), (zi 0)]) (resS_of (by kernel_rfl) (resD_two rfl (.cell (ad := ⟨b4, 0, none⟩) (by kernel_rfl) (by kernel_rfl) (hs34.cellAt 2 rfl rfl)) (.cell (ad := ⟨b7, 0, none⟩) (by kernel_rfl) (by kernel_rfl) (hs34.cellAt 1 rfl rfl)))) ⟨_, ⟨none, 0, rfl, rfl⟩, hs35⟩
  have h25p : ¬ ((tx_.toList == (ByteArray.mk #[47]).toList) = true) := ne_true_of_eq_false h25
  replace hm := ite_no hm h25p
  refine W.skip ?_
  refine hK23 _ _ ?_
  refine W.seq fun K36 hK36 => ?_
  refine W.sr fun K37 hK37 => ?_
  refine zR 1 ?_
  obtain ⟨h38, hm⟩ := need_some hm
  refine ops_R (v := (.string (tx_.extract 1 tx_.size))) (runs_strSlice (b := tx_) (lo := (some 1)) (hi := none) 1 tx_.size (.inl (congrArg some rfl)) (.inr ⟨rfl, rfl⟩) (by omega) (by omega) (by kernel_rfl)) ?_
  refine ops_call0 hs11 (by kernel_rfl) (parts_spec (tx_ := (tx_.extract 1 tx_.size)) B _) ?_
  rintro _ _ w40 ⟨b39, rfl, rfl⟩ hs41
  have hs42 := St.ap1 hs41
  refine zD (hK37 _ _ ?_)
  refine W.block ?_
  obtain ⟨h43, hm⟩ := need_some hm
  refine W.norm (n := 27) (l := [(2, (zp b4)), (3, (zp b7)), (17, (.func (.func 36) #[] #[(zp b39)]))]) (by kernel_rfl) (fun us44 => ?_)
  have hs50 := St.knil kStr hs42
  have hs56 := St.f3 hs50
  have hs57 := St.f3 hs56
  have hs58 := St.f2 hs57
  have hs59 := St.f3 hs58
  have hF60 : rounds (fun k_ c_ s_ => psplit_R51 tx_ k_ c_ s_) (fun s_ => psplit_D51 s_) ((nParts (tx_.extract 1 tx_.size)) - 0) 0 ([]) = some r := by rw [Nat.sub_zero]; exact hm
  clear hm
  refine W.roundsA (G := (List ByteArray) × (Option Addr) × Nat) (GZ := Unit) (gf := 36) (lb := #[(zp b39)]) (nParts (tx_.extract 1 tx_.size)) (fun k_ (q49, m47, m48) => rounds (fun k_ c_ s_ => psplit_R51 tx_ k_ c_ s_) (fun s_ => psplit_D51 s_) ((nParts (tx_.extract 1 tx_.size)) - k_) k_ q49 = some r) (fun (q49, m47, m48) => [kStr.row m47 m48 q49, zb b4 22 [(.slice m47 q49.length m48)], zb b7 24 [(zi 0)]]) .ret (fun _ => psplit_X51 = some r) (fun _ => [zb b4 22 [(.slice none 0 0)], zb b7 24 [(zi 13)]]) [zb b39 9 [(.string (tx_.extract 1 tx_.size))]] (fun k_ => #[(.string (partAt (tx_.extract 1 tx_.size) k_))]) (fun k_ l_ => slotsD 27 ((18, (.string (partAt (tx_.extract 1 tx_.size) k_))) :: [(2, (zp b4)), (3, (zp b7)), (17, (.func (.func 36) #[] #[(zp b39)]))]) us44 (some l_) []) ([], none, 0) hF60 hs59 rfl (by kernel_rfl) (fun _ _ => by kernel_rfl) (fun _ => rfl) (fun a_ k_ l_ h1_ h2_ => ⟨rel_round1 (n := 27) (by decide) h1_ h2_, rfl⟩) (fun l_ => #[.func (.yield l_) #[] #[], (zp b39)]) (fun _ => rfl) (fun l_ w_ Y_ Z_ hy_ => parts1_spec (tx_ := (tx_.extract 1 tx_.size)) (yl := l_) (Y := Y_) (Z := Z_) (hbm := h43) (hy := fun k_ h_ w_ => hy_ k_ h_ w_) _ w_) ?_ ?_ ?_
  rotate_left
  ·
   rintro D55 w61 ⟨q49, m47, m48⟩ hF63 hs62
   replace hF63 : rounds (fun k_ c_ s_ => psplit_R51 tx_ k_ c_ s_) (fun s_ => psplit_D51 s_) ((nParts (tx_.extract 1 tx_.size)) - (nParts (tx_.extract 1 tx_.size))) (nParts (tx_.extract 1 tx_.size)) q49 = some r := hF63
   rw [rounds_end] at hF63
   have hm : psplit_D51 q49 = some r := hF63
   clear hF63
   unfold psplit_D51 at hm
   have hs64 : St B w [] w61 [blk D55 (.deferred (some [])), zb b39 9 [(.string (tx_.extract 1 tx_.size))], kStr.row m47 m48 q49, zb b4 22 [(.slice m47 q49.length m48)], zb b7 24 [(zi 0)]] := hs62
   refine normal_block ?_
   refine hK36 _ _ ?_
   refine W.sr fun K65 hK65 => ?_
   refine zL ⟨b4, 0, none⟩ (.slice m47 q49.length m48) (hs64.cellAt 3 rfl rfl) ?_
   have hs68 := St.f3 hs64
   refine zT 0 [(.slice m47 q49.length m48)] [(.slice m47 q49.length m48)] hs68 fun w66 hs69 => ?_
   have hs72 := St.f4 hs69
   refine zT 0 [(zi 0)] [(zi 0)] hs72 fun w70 hs73 => ?_
   refine zD (hK65 _ _ ?_)
   refine W.ret ?_
   obtain rfl := some_inj hm
   have hs74 := St.f4 hs73
   have hs75 := St.f4 hs74
   have hs76 := St.f3 hs75
   have hs77 := St.f3 hs76
   have hs78 := St.f4 hs77
   refine leave_mark (D := D55) (v := (.tuple #[(.slice m47 q49.length m48), (zi 0)])) hs78 (by kernel_rfl) (fun w79 hs80 => (resD_two rfl (.cell (ad := ⟨b4, 0, none⟩) (by kernel_rfl) (by kernel_rfl) (hs80.cellAt 1 rfl rfl)) (.cell (ad := ⟨b7, 0, none⟩) (by kernel_rfl) (by kernel_rfl) (hs80.cellAt 0 rfl rfl)))) (fun w79 hs80 => ?_)
   have hs81 := St.f3 hs80
   have hs82 := St.tk1 hs81
   exact ⟨_, ⟨m47, m48, rfl, rfl⟩, hs82⟩
  ·
   rintro D85 w83 _ hm hs84
   replace hm : psplit_X51 = some r := hm
   unfold psplit_X51 at hm
   have hs86 : St B w [] w83 [blk D85 (.deferred (some [])), zb b39 9 [(.string (tx_.extract 1 tx_.size))], zb b4 22 [(.slice none 0 0)], zb b7 24 [(zi 13)]] := hs84
   refine W.ret (ret_block (ret_seq ?_))
   have hs87 := St.knil kStr hs86
   obtain rfl := some_inj hm
   have hs88 := St.f4 hs87
   have hs89 := St.f4 hs88
   have hs90 := St.f4 hs89
   have hs91 := St.f3 hs90
   have hs92 := St.f4 hs91
   refine leave_mark (D := D85) (v := (.tuple #[(.slice none 0 0), (zi 13)])) hs92 (by kernel_rfl) (fun w93 hs94 => (resD_two rfl (.cell (ad := ⟨b4, 0, none⟩) (by kernel_rfl) (by kernel_rfl) (hs94.cellAt 2 rfl rfl)) (.cell (ad := ⟨b7, 0, none⟩) (by kernel_rfl) (by kernel_rfl) (hs94.cellAt 3 rfl rfl)))) (fun w93 hs94 => ?_)
   have hs95 := St.tk1 hs94
   exact ⟨_, ⟨none, 0, rfl, rfl⟩, hs95⟩
  rintro k45 hk96 rc53 l52 w97 ⟨q49, m47, m48⟩ hF101 lf98 hs99 K100 hK100
  replace hF101 : rounds (fun k_ c_ s_ => psplit_R51 tx_ k_ c_ s_) (fun s_ => psplit_D51 s_) ((nParts (tx_.extract 1 tx_.size)) - k45) k45 q49 = some r := hF101
  rw [rounds_at hk96] at hF101
  obtain ⟨c46, hc46⟩ : ∃ c_, c_ = rounds (fun k_ c_ s_ => psplit_R51 tx_ k_ c_ s_) (fun s_ => psplit_D51 s_) ((nParts (tx_.extract 1 tx_.size)) - (k45 + 1)) (k45 + 1) := ⟨_, rfl⟩
  rw [← hc46] at hF101
  have hm : psplit_R51 tx_ k45 c46 q49 = some r := hF101
  clear hF101
  unfold psplit_R51 at hm
  refine W.region ?_
  refine zE 1 ?_
  refine hK100 _ _ hs99 (fun w102 hs103 => ?_)
  refine W.block ?_
  refine W.seq fun K104 hK104 => ?_
  refine W.sr fun K105 hK105 => ?_
  refine zR 1 ?_
  obtain ⟨r106, h107, hm⟩ := bind_some hm
  refine zC00 hs103 (emay_walk (tx_ := (partAt (tx_.extract 1 tx_.size) k45)) (hm := h107) B _) fun w108 hs110 => ?_
  refine zE 1 (hK105 _ _ ?_)
  refine W.cond (!r106) (by kernel_rfl) (fun h111 => ?_) (fun h111 => ?_)
  rotate_left
  ·
   have h111p : r106 = true := (bnot_false h111)
   replace hm := ite_yes hm h111p
   refine W.skip ?_
   refine hK104 _ _ ?_
   refine W.region ?_
   refine zL ⟨b4, 0, none⟩ (.slice m47 q49.length m48) (hs110.cellAt 2 rfl rfl) ?_
   refine zR 1 ?_
   refine ops_new (fun b => .slice (some ⟨b, 0, none⟩) 1 1) (.cells [(.string (partAt (tx_.extract 1 tx_.size) k45))].toArray 9 (0, 0)) hs110 (by kernel_rfl) (fun b114 w112 hs113 => ?_)
   have hs115 := St.f2 hs113
   obtain ⟨h120, hm⟩ := need_some hm
   refine ops_appendK kStr (bytes := 16) (a' := (some ⟨b114, 0, none⟩)) (c' := 1) (l := q49) (m := [(partAt (tx_.extract 1 tx_.size) k45)]) hs115 (by kernel_rfl) (by simp) (cells_blk (hs115.heapAt 1 rfl)) (by unfold maxLen; (try simp only [List.length_cons, List.length_nil]); omega) (by (try simp only [List.length_cons, List.length_nil]); omega) (fun a116 c117 w118 hs119 => ?_)
   have hs123 := St.f3 hs119
   refine zT 0 [(.slice a116 ((q49 ++ [(partAt (tx_.extract 1 tx_.size) k45)]).length) c117)] [(.slice a116 ((q49 ++ [(partAt (tx_.extract 1 tx_.size) k45)]).length) c117)] hs123 fun w121 hs124 => ?_
   refine zD ?_
   refine normal_block ?_
   have hs125 := St.f4 hs124
   have hs126 := St.f1 hs125
   have hs127 := St.f2 hs126
   have hs128 := St.f4 hs127
   have hs129 := St.tk4 hs128
   rw [hc46] at hm
   exact ⟨((q49 ++ [(partAt (tx_.extract 1 tx_.size) k45)]), a116, c117), hm, hs129⟩
  have h111p : ¬ (r106 = true) := ne_true_of_eq_false (bnot_true h111)
  replace hm := ite_no hm h111p
  refine W.sr fun K130 hK130 => ?_
  have hs133 := St.f2 hs110
  refine zT 0 [(.slice none 0 0)] [(.slice none 0 0)] hs133 fun w131 hs134 => ?_
  have hs137 := St.f3 hs134
  refine zT 0 [(zi 13)] [(zi 13)] hs137 fun w135 hs138 => ?_
  refine zD (hK130 _ _ ?_)
  refine W.ret (ret_seq (ret_block ?_))
  have hs139 := St.f1 hs138
  have hs140 := St.f2 hs139
  have hs141 := St.tk3 hs140
  exact ⟨rfl, (), hm, hs141⟩
 refine W.region ?_
 refine zR 4 ?_
 rcases Bool.eq_false_or_eq_true (decide ((tx_.size : Int) > 200)) with h142 | h142
 ·
  obtain ⟨h142p, hm⟩ := iY hm h142
  refine zS 8 h142 ?_
  refine zS 7 h142 ?_
  refine zE 4 ?_
  have hs143 := St.f1 hs6
  exact ⟨true, slots_intro _ (by kernel_rfl), hs143, hm⟩
 obtain ⟨h142p, hm⟩ := iN hm h142
 refine zS 8 h142 ?_
 refine zS 7 h142 ?_
 refine zR 1 ?_
 obtain ⟨r144, h145, hm⟩ := bind_some hm
 refine zC00 hs6 (shas_walk (tx_ := tx_) (hm := h145) B _) fun w146 hs148 => ?_
 refine zE 2 ?_
 have hs149 := St.f1 hs148
 exact ⟨(!r144), slots_intro _ (by kernel_rfl), hs149, hm⟩
end Go.Proofs.Ytmmclabkkigiaaa

set_option maxRecDepth 20000
set_option maxHeartbeats 1000000
namespace Go.Proofs.Ytmmclabkkigiaaa
open Go Go.RowKit
theorem popen_ok {vb : Nat} {img : List Int} {l : List (Int × Int)} {gw gi gb : Int} (B : Nat) (w : World) (hv : ViewAt (ptr vb) img l w) (hP : May gw gi gb ∧ wordsOf gw gi gb ≤ (img.length : Int)) : Spec Try.prog 25 #[(zp vb), (.agg #[(zi gw), (zi gi), (zi gb)])] B w [] (fun v H' => v = (.tuple #[(.agg #[(zp vb), (zi gw), (zi gi), (zi gb)]), (zi 0)]) ∧ H' = []) := by
 refine spec_Q Try.func25 rfl fun hs => ?_
 have hm : May gw gi gb := hP.1
 have hl := hP.2
 refine W.sr fun K1 hK1 => ?_
 refine zN [(zi gw), (zi gi), (zi gb)] 33 hs fun b4 w2 hs3 => ?_
 refine zN [(.pointer none), (zi 0), (zi 0), (zi 0)] 53 hs3 fun b7 w5 hs6 => ?_
 refine zE 1 (hK1 _ _ ?_)
 refine W.seq fun K8 hK8 => ?_
 refine W.block ?_
 refine W.sr fun K9 hK9 => ?_
 refine zE 3 (hK9 _ _ ?_)
 refine W.cond_false false (by kernel_rfl) rfl ?_
 refine W.sr fun K10 hK10 => ?_
 refine zG ⟨b4, 0, none⟩ [(zi gw), (zi gi), (zi gb)] (cells_sub (hs6.heapAt 1 rfl) rfl) ?_
 refine zC00 hs6 (may_spec (gw := gw) (gi := gi) (gb := gb) B _) fun w11 hs13 => ?_
 refine zE 2 (hK10 _ _ ?_)
 refine W.cond (!(decide (May gw gi gb))) (by kernel_rfl) (fun h14 => ?_) (fun h14 => ?_)
 ·
  have h14p : ¬ (May gw gi gb) := of_decide_eq_false (bnot_true h14)
  refine W.sr fun K15 hK15 => ?_
  refine zR 1 ?_
  refine zT 0 [(.pointer none), (zi 0), (zi 0), (zi 0)] [(.pointer none), (zi 0), (zi 0), (zi 0)] hs13 fun w16 hs18 => ?_
  refine zE 1 (hK15 _ _ ?_)
  refine W.ret (ret_block (ret_seq ?_))
  exfalso
  first | omega | exact absurd hP.1 (by assumption)
 have h14p : May gw gi gb := of_decide_eq_true (bnot_false h14)
 refine W.seq fun K19 hK19 => ?_
 have hs20 := hs13.drew
 refine W.regionD [(0, 0), (1, 1), (0, 0), (6, 4), (10, 10), (24, 16)] (fun w_ => St B w [] w_ [zb b7 53 [(.pointer none), (zi 0), (zi 0), (zi 0)], zb b4 33 [(zi gw), (zi gi), (zi gb)]]) (by kernel_rfl) hs20 ?_
 refine zA (zp vb) 0 hs20 ?_
 refine any_R 2 (by kernel_rfl) (fun _ hS_ => runs_loadAgg (ad := ⟨b4, 0, none⟩) (cs := [(zi gw), (zi gi), (zi gb)]) (by kernel_rfl) (cells_sub (hS_.heapAt 1 rfl) rfl)) hs20 ?_
 refine any_step 1 (by kernel_rfl) (by kernel_rfl) ?_
 refine zC00 hs20 (len_spec (hv := (viewAt_old hs20 hv)) B _) fun w21 hs23 => ?_
 refine ops_done (by kernel_rfl) ⟨hs23, ?_⟩
 refine any_step 3 (by kernel_rfl) (by kernel_rfl) ?_
 refine zC00 hs23 (lwords_spec (gw := gw) (gi := gi) (gb := gb) B _) fun w24 hs26 => ?_
 refine ops_done (by kernel_rfl) ⟨hs26, ?_⟩
 refine zA (.bool (decide ((img.length : Int) < (wordsOf gw gi gb)))) 4 hs26 ?_
 refine zA (.bool (decide ((img.length : Int) < (wordsOf gw gi gb)))) 5 hs26 ?_
 refine any_done (by kernel_rfl) ?_
 refine hK19 _ _ ?_
 refine W.cond (decide ((img.length : Int) < (wordsOf gw gi gb))) (by kernel_rfl) (fun h27 => ?_) (fun h27 => ?_)
 ·
  have h27p := of_decide_eq_true h27
  refine W.sr fun K28 hK28 => ?_
  refine zR 1 ?_
  refine zT 0 [(.pointer none), (zi 0), (zi 0), (zi 0)] [(.pointer none), (zi 0), (zi 0), (zi 0)] hs26 fun w29 hs31 => ?_
  refine zE 1 (hK28 _ _ ?_)
  refine W.ret (ret_block (ret_seq ?_))
  exfalso
  first | omega | exact absurd hP.1 (by assumption)
 have h27p := of_decide_eq_false h27
 refine W.skip ?_
 refine normal_block ?_
 refine hK8 _ _ ?_
 refine W.sr fun K32 hK32 => ?_
 refine zR 1 ?_
 refine zG ⟨b4, 0, none⟩ [(zi gw), (zi gi), (zi gb)] (cells_sub (hs26.heapAt 1 rfl) rfl) ?_
 refine zR 1 ?_
 refine zT 0 [(zp vb), (zi gw), (zi gi), (zi gb)] [(zp vb), (zi gw), (zi gi), (zi gb)] hs26 fun w33 hs35 => ?_
 refine zE 1 (hK32 _ _ ?_)
 refine W.ret ?_
 have hs36 := St.tk0 hs35
 refine ret_of (.tuple #[(.agg #[(zp vb), (zi gw), (zi gi), (zi gb)]), (zi 0)]) (resS_of (by kernel_rfl) (resD_two rfl (.agg (ad := ⟨b7, 0, none⟩) (cs := [(zp vb), (zi gw), (zi gi), (zi gb)]) (by kernel_rfl) (by kernel_rfl) (cells_sub (hs35.heapAt 0 rfl) rfl)) (.tmp (by kernel_rfl)))) ⟨_, ⟨rfl, rfl⟩, hs36⟩
theorem popen_err {vb : Nat} {img : List Int} {l : List (Int × Int)} {gw gi gb : Int} (B : Nat) (w : World) (hv : ViewAt (ptr vb) img l w) (hN : ¬ (May gw gi gb ∧ wordsOf gw gi gb ≤ (img.length : Int))) : Spec Try.prog 25 #[(zp vb), (.agg #[(zi gw), (zi gi), (zi gb)])] B w [] (fun v H' => v = .tuple #[(.agg #[(.pointer none), (zi 0), (zi 0), (zi 0)]), .int .i64 (if May gw gi gb then 8 else 1)] ∧ H' = []) := by
 refine spec_Q Try.func25 rfl fun hs => ?_
 refine W.sr fun K1 hK1 => ?_
 refine zN [(zi gw), (zi gi), (zi gb)] 33 hs fun b4 w2 hs3 => ?_
 refine zN [(.pointer none), (zi 0), (zi 0), (zi 0)] 53 hs3 fun b7 w5 hs6 => ?_
 refine zE 1 (hK1 _ _ ?_)
 refine W.seq fun K8 hK8 => ?_
 refine W.block ?_
 refine W.sr fun K9 hK9 => ?_
 refine zE 3 (hK9 _ _ ?_)
 refine W.cond_false false (by kernel_rfl) rfl ?_
 refine W.sr fun K10 hK10 => ?_
 refine zG ⟨b4, 0, none⟩ [(zi gw), (zi gi), (zi gb)] (cells_sub (hs6.heapAt 1 rfl) rfl) ?_
 refine zC00 hs6 (may_spec (gw := gw) (gi := gi) (gb := gb) B _) fun w11 hs13 => ?_
 refine zE 2 (hK10 _ _ ?_)
 refine W.cond (!(decide (May gw gi gb))) (by kernel_rfl) (fun h14 => ?_) (fun h14 => ?_)
 ·
  have h14p : ¬ (May gw gi gb) := of_decide_eq_false (bnot_true h14)
  refine W.sr fun K15 hK15 => ?_
  refine zR 1 ?_
  refine zT 0 [(.pointer none), (zi 0), (zi 0), (zi 0)] [(.pointer none), (zi 0), (zi 0), (zi 0)] hs13 fun w16 hs18 => ?_
  refine zE 1 (hK15 _ _ ?_)
  refine W.ret (ret_block (ret_seq ?_))
  have hs19 := St.tk0 hs18
  refine ret_of (.tuple #[(.agg #[(.pointer none), (zi 0), (zi 0), (zi 0)]), (zi 1)]) (resS_of (by kernel_rfl) (resD_two rfl (.agg (ad := ⟨b7, 0, none⟩) (cs := [(.pointer none), (zi 0), (zi 0), (zi 0)]) (by kernel_rfl) (by kernel_rfl) (cells_sub (hs18.heapAt 0 rfl) rfl)) (.tmp (by kernel_rfl)))) ⟨_, ⟨congrArg (fun z => Value.tuple #[(.agg #[(.pointer none), (zi 0), (zi 0), (zi 0)]), .int .i64 z]) (if_neg (by assumption)).symm, rfl⟩, hs19⟩
 have h14p : May gw gi gb := of_decide_eq_true (bnot_false h14)
 refine W.seq fun K20 hK20 => ?_
 have hs21 := hs13.drew
 refine W.regionD [(0, 0), (1, 1), (0, 0), (6, 4), (10, 10), (24, 16)] (fun w_ => St B w [] w_ [zb b7 53 [(.pointer none), (zi 0), (zi 0), (zi 0)], zb b4 33 [(zi gw), (zi gi), (zi gb)]]) (by kernel_rfl) hs21 ?_
 refine zA (zp vb) 0 hs21 ?_
 refine any_R 2 (by kernel_rfl) (fun _ hS_ => runs_loadAgg (ad := ⟨b4, 0, none⟩) (cs := [(zi gw), (zi gi), (zi gb)]) (by kernel_rfl) (cells_sub (hS_.heapAt 1 rfl) rfl)) hs21 ?_
 refine any_step 1 (by kernel_rfl) (by kernel_rfl) ?_
 refine zC00 hs21 (len_spec (hv := (viewAt_old hs21 hv)) B _) fun w22 hs24 => ?_
 refine ops_done (by kernel_rfl) ⟨hs24, ?_⟩
 refine any_step 3 (by kernel_rfl) (by kernel_rfl) ?_
 refine zC00 hs24 (lwords_spec (gw := gw) (gi := gi) (gb := gb) B _) fun w25 hs27 => ?_
 refine ops_done (by kernel_rfl) ⟨hs27, ?_⟩
 refine zA (.bool (decide ((img.length : Int) < (wordsOf gw gi gb)))) 4 hs27 ?_
 refine zA (.bool (decide ((img.length : Int) < (wordsOf gw gi gb)))) 5 hs27 ?_
 refine any_done (by kernel_rfl) ?_
 refine hK20 _ _ ?_
 refine W.cond (decide ((img.length : Int) < (wordsOf gw gi gb))) (by kernel_rfl) (fun h28 => ?_) (fun h28 => ?_)
 ·
  have h28p := of_decide_eq_true h28
  refine W.sr fun K29 hK29 => ?_
  refine zR 1 ?_
  refine zT 0 [(.pointer none), (zi 0), (zi 0), (zi 0)] [(.pointer none), (zi 0), (zi 0), (zi 0)] hs27 fun w30 hs32 => ?_
  refine zE 1 (hK29 _ _ ?_)
  refine W.ret (ret_block (ret_seq ?_))
  have hs33 := St.tk0 hs32
  refine ret_of (.tuple #[(.agg #[(.pointer none), (zi 0), (zi 0), (zi 0)]), (zi 8)]) (resS_of (by kernel_rfl) (resD_two rfl (.agg (ad := ⟨b7, 0, none⟩) (cs := [(.pointer none), (zi 0), (zi 0), (zi 0)]) (by kernel_rfl) (by kernel_rfl) (cells_sub (hs32.heapAt 0 rfl) rfl)) (.tmp (by kernel_rfl)))) ⟨_, ⟨congrArg (fun z => Value.tuple #[(.agg #[(.pointer none), (zi 0), (zi 0), (zi 0)]), .int .i64 z]) (if_pos (by assumption)).symm, rfl⟩, hs33⟩
 have h28p := of_decide_eq_false h28
 refine W.skip ?_
 refine normal_block ?_
 refine hK8 _ _ ?_
 refine W.sr fun K34 hK34 => ?_
 refine zR 1 ?_
 refine zG ⟨b4, 0, none⟩ [(zi gw), (zi gi), (zi gb)] (cells_sub (hs27.heapAt 1 rfl) rfl) ?_
 refine zR 1 ?_
 refine zT 0 [(zp vb), (zi gw), (zi gi), (zi gb)] [(zp vb), (zi gw), (zi gi), (zi gb)] hs27 fun w35 hs37 => ?_
 refine zE 1 (hK34 _ _ ?_)
 refine W.ret ?_
 exfalso
 first | omega | exact hN ⟨by assumption, by omega⟩
theorem popen_nil {gw gi gb : Int} (B : Nat) (w : World) : Spec Try.prog 25 #[(.pointer none), (.agg #[(zi gw), (zi gi), (zi gb)])] B w [] (fun v H' => v = (.tuple #[(.agg #[(.pointer none), (zi 0), (zi 0), (zi 0)]), (zi 2)]) ∧ H' = []) := by
 refine spec_Q Try.func25 rfl fun hs => ?_
 refine W.sr fun K1 hK1 => ?_
 refine zN [(zi gw), (zi gi), (zi gb)] 33 hs fun b4 w2 hs3 => ?_
 refine zN [(.pointer none), (zi 0), (zi 0), (zi 0)] 53 hs3 fun b7 w5 hs6 => ?_
 refine zE 1 (hK1 _ _ ?_)
 refine W.seq fun K8 hK8 => ?_
 refine W.block ?_
 refine W.sr fun K9 hK9 => ?_
 refine zE 3 (hK9 _ _ ?_)
 refine W.cond_true true (by kernel_rfl) rfl ?_
 refine W.sr fun K10 hK10 => ?_
 refine zR 1 ?_
 refine zT 0 [(.pointer none), (zi 0), (zi 0), (zi 0)] [(.pointer none), (zi 0), (zi 0), (zi 0)] hs6 fun w11 hs13 => ?_
 refine zE 1 (hK10 _ _ ?_)
 refine W.ret (ret_block (ret_seq ?_))
 have hs14 := St.tk0 hs13
 refine ret_of (.tuple #[(.agg #[(.pointer none), (zi 0), (zi 0), (zi 0)]), (zi 2)]) (resS_of (by kernel_rfl) (resD_two rfl (.agg (ad := ⟨b7, 0, none⟩) (cs := [(.pointer none), (zi 0), (zi 0), (zi 0)]) (by kernel_rfl) (by kernel_rfl) (cells_sub (hs13.heapAt 0 rfl) rfl)) (.tmp (by kernel_rfl)))) ⟨_, ⟨rfl, rfl⟩, hs14⟩
end Go.Proofs.Ytmmclabkkigiaaa

set_option maxRecDepth 20000
set_option maxHeartbeats 4000000
namespace Go.Proofs.Ytmmclabkkigiaaa
open Go Go.RowKit
def pWalk_M (img : List Int) (l : List (Int × Int)) (gw : Int) (gi : Int) (gb : Int) (tx_ : ByteArray) : Option (Int × Int) :=
 if May gw gi gb ∧ wordsOf gw gi gb ≤ (img.length : Int) then ((psplit_M tx_).bind fun r22 =>
if r22.2 = 0 then ((pwalk_M img l gw gi gb r22.1).bind fun r31 =>
some (r31.1, r31.2)) else (some (0, r22.2))) else ((some (if May gw gi gb then (8 : Int) else 1)).bind fun r50 =>
if r50 = 0 then (none) else (some (0, r50)))
theorem pWalk_walk {img : List Int} {l : List (Int × Int)} {gw : Int} {gi : Int} {gb : Int} {tx_ : ByteArray} {vb : Nat} {r : Int × Int} (B : Nat) (w : World) (hm : pWalk_M img l gw gi gb tx_ = some r) : Spec Try.prog 13 #[(zp vb), (.agg #[(zi gw), (zi gi), (zi gb)]), (.string tx_)] B w [viewA (ptr vb) img l] (fun v H' => v = (.tuple #[(zi r.1), (zi r.2)]) ∧ H' = [viewA (ptr vb) img l]) := by
 refine spec_W Try.func13 rfl fun l0 hs => ?_
 unfold pWalk_M at hm
 refine W.sr fun K1 hK1 => ?_
 refine zN [(zi gw), (zi gi), (zi gb)] 33 hs fun b4 w2 hs3 => ?_
 refine zE 2 (hK1 _ _ ?_)
 refine W.sr fun K6 hK6 => ?_
 refine zR 1 ?_
 refine zG ⟨b4, 0, none⟩ [(zi gw), (zi gi), (zi gb)] (cells_sub (hs3.heapAt 0 rfl) rfl) ?_
 rcases Bool.eq_false_or_eq_true (decide (May gw gi gb ∧ wordsOf gw gi gb ≤ (img.length : Int))) with h7 | h7
 ·
  obtain ⟨h7p, hm⟩ := iY hm h7
  refine zC00 hs3 (popen_ok (gw := gw) (gi := gi) (gb := gb) (hv := (hs3.entAt 1 rfl viewA_at)) (hP := h7p) B _) fun w8 hs10 => ?_
  refine zR 3 ?_
  refine zN [(.pointer none), (zi 0), (zi 0), (zi 0)] 53 hs10 fun b13 w11 hs12 => ?_
  refine zT 0 [(zp vb), (zi gw), (zi gi), (zi gb)] [(zp vb), (zi gw), (zi gi), (zi gb)] hs12 fun w14 hs16 => ?_
  refine zE 1 (hK6 _ _ ?_)
  refine W.seq fun K17 hK17 => ?_
  refine W.sr fun K18 hK18 => ?_
  refine zE 2 (hK18 _ _ ?_)
  refine W.cond_false false (by kernel_rfl) rfl ?_
  refine W.skip ?_
  refine hK17 _ _ ?_
  refine W.sr fun K19 hK19 => ?_
  refine zR 1 ?_
  obtain ⟨r22, h23, hm⟩ := bind_some hm
  refine ops_call0 hs16 (by kernel_rfl) (psplit_walk (tx_ := tx_) (hm := h23) B _) ?_
  rintro _ _ w24 ⟨a20, c21, rfl, rfl⟩ hs25
  have hs26 := St.ap1 hs25
  refine zE 5 (hK19 _ _ ?_)
  refine W.seq fun K27 hK27 => ?_
  refine W.sr fun K28 hK28 => ?_
  refine zE 2 (hK28 _ _ ?_)
  refine W.cond (!decide (r22.2 = 0)) (by kernel_rfl) (fun h29 => ?_) (fun h29 => ?_)
  rotate_left
  ·
   have h29p : r22.2 = 0 := of_decide_eq_true (bnot_false h29)
   replace hm := ite_yes hm h29p
   refine W.skip ?_
   refine hK27 _ _ ?_
   refine W.sr fun K30 hK30 => ?_
   refine zR 1 ?_
   refine zG ⟨b13, 0, none⟩ [(zp vb), (zi gw), (zi gi), (zi gb)] (cells_sub (hs26.heapAt 1 rfl) rfl) ?_
   refine zR 1 ?_
   obtain ⟨r31, h32, hm⟩ := bind_some hm
   have hs33 := St.f3 hs26
   refine zC22 hs33 (pwalk_walk (vb := vb) (xa := a20) (xc := c21) (A_ := kStr.row a20 c21 r22.1) (img := img) (l := l) (gw := gw) (gi := gi) (gb := gb) (xs := r22.1) (hA := fun h_ => (row_at h_)) (hm := h32) B _) fun w34 hs36 => ?_
   refine zE 4 (hK30 _ _ ?_)
   refine W.ret ?_
   obtain rfl := some_inj hm
   have hs37 := St.tk1 hs36
   refine ret_of (.tuple #[(zi r31.1), (zi r31.2)]) (by kernel_rfl) ⟨_, ⟨rfl, rfl⟩, hs37⟩
  have h29p : ¬ (r22.2 = 0) := of_decide_eq_false (bnot_true h29)
  replace hm := ite_no hm h29p
  refine W.sr fun K38 hK38 => ?_
  refine zE 3 (hK38 _ _ ?_)
  refine W.ret (ret_seq ?_)
  obtain rfl := some_inj hm
  have hs39 := St.f3 hs26
  have hs40 := St.tk1 hs39
  refine ret_of (.tuple #[(zi 0), (zi r22.2)]) (by kernel_rfl) ⟨_, ⟨rfl, rfl⟩, hs40⟩
 obtain ⟨h7p, hm⟩ := iN hm h7
 refine zC00 hs3 (popen_err (gw := gw) (gi := gi) (gb := gb) (hv := (hs3.entAt 1 rfl viewA_at)) (hN := h7p) B _) fun w41 hs43 => ?_
 refine zR 3 ?_
 refine zN [(.pointer none), (zi 0), (zi 0), (zi 0)] 53 hs43 fun b46 w44 hs45 => ?_
 refine zT 0 [(.pointer none), (zi 0), (zi 0), (zi 0)] [(.pointer none), (zi 0), (zi 0), (zi 0)] hs45 fun w47 hs49 => ?_
 refine zR 1 ?_
 obtain ⟨r50, h51, hm⟩ := bind_some hm
 replace h51 := some_inj h51
 refine ops_set 9 (v := .int .i64 r50) (Eq.trans (by kernel_rfl) (congrArg (Value.int .i64) h51)) ?_
 refine zD (hK6 _ _ ?_)
 refine W.seq fun K52 hK52 => ?_
 refine W.sr fun K53 hK53 => ?_
 refine zE 2 (hK53 _ _ ?_)
 refine W.cond (!decide (r50 = 0)) (by kernel_rfl) (fun h54 => ?_) (fun h54 => ?_)
 rotate_left
 ·
  have h54p : r50 = 0 := of_decide_eq_true (bnot_false h54)
  exact absurd h54p (fun e_ => (show ¬ ((if May gw gi gb then (8 : Int) else 1) = 0) by split <;> decide) (h51.trans e_))
 have h54p : ¬ (r50 = 0) := of_decide_eq_false (bnot_true h54)
 replace hm := ite_no hm h54p
 refine W.sr fun K55 hK55 => ?_
 refine zE 3 (hK55 _ _ ?_)
 refine W.ret (ret_seq ?_)
 obtain rfl := some_inj hm
 have hs56 := St.f2 hs49
 have hs57 := St.tk1 hs56
 refine ret_of (.tuple #[(zi 0), (zi r50)]) (by kernel_rfl) ⟨_, ⟨rfl, rfl⟩, hs57⟩
def pParent_J2 (r23 : List ByteArray × Int) (r36 : Int) (r42 : Int × Int) (p70 : Int) : Option (Int × ByteArray × Int) :=
 if p70 = 0 then (need (0 ≤ r36 ∧ r36 < (r23.1.length : Int)) <|
some (r42.1, (r23.1.getD r36.toNat ByteArray.empty), 0)) else (some (0, ByteArray.empty, p70))
def pParent_J1 (img : List Int) (l : List (Int × Int)) (gw : Int) (gi : Int) (gb : Int) (r23 : List ByteArray × Int) (p28 : Int) : Option (Int × ByteArray × Int) :=
 if p28 = 0 then (need (-9223372036854775808 ≤ ((r23.1.length : Int) - 1) ∧ ((r23.1.length : Int) - 1) ≤ 9223372036854775807) <|
(some ((r23.1.length : Int) - 1)).bind fun r36 =>
need (0 ≤ r36 ∧ r36 ≤ (r23.1.length : Int)) <|
(pwalk_M img l gw gi gb (r23.1.take r36.toNat)).bind fun r42 =>
if r42.2 = 0 then ((some (igetM img l gw gi gb r42.1)).bind fun r57 =>
if r57.2 = 0 then (if r57.1.k = 2 then (pParent_J2 r23 r36 r42 r57.2) else (pParent_J2 r23 r36 r42 10)) else (pParent_J2 r23 r36 r42 r57.2)) else (some (0, ByteArray.empty, r42.2))) else (some (0, ByteArray.empty, p28))
def pParent_M (img : List Int) (l : List (Int × Int)) (gw : Int) (gi : Int) (gb : Int) (tx_ : ByteArray) : Option (Int × ByteArray × Int) :=
 if May gw gi gb ∧ wordsOf gw gi gb ≤ (img.length : Int) then ((psplit_M tx_).bind fun r23 =>
if r23.2 = 0 then (if (r23.1.length : Int) = 0 then (pParent_J1 img l gw gi gb r23 13) else (pParent_J1 img l gw gi gb r23 r23.2)) else (pParent_J1 img l gw gi gb r23 r23.2)) else ((some (if May gw gi gb then (8 : Int) else 1)).bind fun r128 =>
if r128 = 0 then (none) else (some (0, ByteArray.empty, r128)))
theorem pParent_walk {img : List Int} {l : List (Int × Int)} {gw : Int} {gi : Int} {gb : Int} {tx_ : ByteArray} {vb : Nat} {r : Int × ByteArray × Int} (B : Nat) (w : World) (hm : pParent_M img l gw gi gb tx_ = some r) : Spec Try.prog 14 #[(zp vb), (.agg #[(zi gw), (zi gi), (zi gb)]), (.string tx_)] B w [viewA (ptr vb) img l] (fun v H' => v = (.tuple #[(zi r.1), (.string r.2.1), (zi r.2.2)]) ∧ H' = [viewA (ptr vb) img l]) := by
 refine spec_W Try.func14 rfl fun l0 hs => ?_
 unfold pParent_M at hm
 refine W.sr fun K1 hK1 => ?_
 refine zN [(zi gw), (zi gi), (zi gb)] 33 hs fun b4 w2 hs3 => ?_
 refine zE 3 (hK1 _ _ ?_)
 refine W.sr fun K7 hK7 => ?_
 refine zR 1 ?_
 refine zG ⟨b4, 0, none⟩ [(zi gw), (zi gi), (zi gb)] (cells_sub (hs3.heapAt 0 rfl) rfl) ?_
 rcases Bool.eq_false_or_eq_true (decide (May gw gi gb ∧ wordsOf gw gi gb ≤ (img.length : Int))) with h8 | h8
 ·
  obtain ⟨h8p, hm⟩ := iY hm h8
  refine zC00 hs3 (popen_ok (gw := gw) (gi := gi) (gb := gb) (hv := (hs3.entAt 1 rfl viewA_at)) (hP := h8p) B _) fun w9 hs11 => ?_
  refine zR 3 ?_
  refine zN [(.pointer none), (zi 0), (zi 0), (zi 0)] 53 hs11 fun b14 w12 hs13 => ?_
  refine zT 0 [(zp vb), (zi gw), (zi gi), (zi gb)] [(zp vb), (zi gw), (zi gi), (zi gb)] hs13 fun w15 hs17 => ?_
  refine zE 1 (hK7 _ _ ?_)
  refine W.seq fun K18 hK18 => ?_
  refine W.sr fun K19 hK19 => ?_
  refine zE 2 (hK19 _ _ ?_)
  refine W.cond_false false (by kernel_rfl) rfl ?_
  refine W.skip ?_
  refine hK18 _ _ ?_
  refine W.sr fun K20 hK20 => ?_
  refine zR 1 ?_
  obtain ⟨r23, h24, hm⟩ := bind_some hm
  refine ops_call0 hs17 (by kernel_rfl) (psplit_walk (tx_ := tx_) (hm := h24) B _) ?_
  rintro _ _ w25 ⟨a21, c22, rfl, rfl⟩ hs26
  have hs27 := St.ap1 hs26
  refine zE 5 (hK20 _ _ ?_)
  refine W.seq_join (fun s_ w_ => ∃ (p28 : Int), (∃ us, s_ = slots 75 [(0, (zp vb)), (4, (zp b4)), (8, (zi p28)), (9, (zp b14)), (10, (.slice a21 r23.1.length c22))] us) ∧ St B w l0 w_ [viewA (ptr vb) img l, zb b4 33 [(zi gw), (zi gi), (zi gb)], zb b14 53 [(zp vb), (zi gw), (zi gi), (zi gb)], kStr.row a21 c22 r23.1] ∧ pParent_J1 img l gw gi gb r23 p28 = some r) ?_ ?_
  ·
   rintro _ w29 ⟨p28, ⟨us, rfl⟩, hs30, hm⟩
   unfold pParent_J1 at hm
   refine W.seq fun K31 hK31 => ?_
   refine W.sr fun K32 hK32 => ?_
   refine zE 2 (hK32 _ _ ?_)
   refine W.cond (!decide (p28 = 0)) (by kernel_rfl) (fun h33 => ?_) (fun h33 => ?_)
   rotate_left
   ·
    have h33p : p28 = 0 := of_decide_eq_true (bnot_false h33)
    replace hm := ite_yes hm h33p
    refine W.skip ?_
    refine hK31 _ _ ?_
    refine W.sr fun K34 hK34 => ?_
    refine zR 2 ?_
    obtain ⟨h35, hm⟩ := need_some hm
    refine zI _ (wrap_i64 h35.1 h35.2) ?_
    refine zR 1 ?_
    obtain ⟨r36, h37, hm⟩ := bind_some hm
    replace h37 := some_inj h37
    refine ops_set 11 (v := .int .i64 r36) (Eq.trans (by kernel_rfl) (congrArg (Value.int .i64) h37)) ?_
    refine zD (hK34 _ _ ?_)
    refine W.seq fun K38 hK38 => ?_
    have hs39 := hs30.drew
    refine W.regionD [(0, 0), (0, 0), (3, 3), (0, 0), (8, 8), (20, 20), (32, 32), (64, 64), (64, 64), (255, 128), (1023, 256)] (fun w_ => St B w l0 w_ [viewA (ptr vb) img l, zb b4 33 [(zi gw), (zi gi), (zi gb)], zb b14 53 [(zp vb), (zi gw), (zi gi), (zi gb)], kStr.row a21 c22 r23.1]) (by kernel_rfl) hs39 ?_
    refine zA (.slice a21 r23.1.length c22) 0 hs39 ?_
    refine zA (zi r36) 1 hs39 ?_
    obtain ⟨h40, hm⟩ := need_some hm
    have hc41 := St.kcap kStr hs39 3 rfl
    refine any_R 2 (by kernel_rfl) (fun _ hS_ => runs_prefixL (a := a21) (n := r23.1.length) (c := c22) (z := r36) (size := 1) r36.toNat (r23.1.take r36.toNat).length (le_take_len (le_toNat h40)) (nat_of h40.1) (le_toNat h40) hc41 (by kernel_rfl)) hs39 ?_
    refine any_R 3 (by kernel_rfl) (fun _ hS_ => runs_loadAgg (ad := ⟨b14, 0, none⟩) (cs := [(zp vb), (zi gw), (zi gi), (zi gb)]) (by kernel_rfl) (cells_sub (hS_.heapAt 2 rfl) rfl)) hs39 ?_
    refine zA (.func (.func 27) #[(.agg #[(zp vb), (zi gw), (zi gi), (zi gb)])] #[]) 4 hs39 ?_
    refine any_step 5 (by kernel_rfl) (by kernel_rfl) ?_
    obtain ⟨r42, h43, hm⟩ := bind_some hm
    have hs44 := St.f3 hs39
    have hs45 := St.f1 hs44
    refine zC22 hs45 (pwalk_walk (vb := vb) (xa := a21) (xc := c22) (A_ := kStr.row a21 c22 r23.1) (img := img) (l := l) (gw := gw) (gi := gi) (gb := gb) (xs := (r23.1.take r36.toNat)) (hA := fun h_ => (cells_take kStr r36.toNat (row_at h_))) (hm := h43) B _) fun w46 hs48 => ?_
    have hs49 := St.f1 hs48
    have hs50 := St.f3 hs49
    have hs51 := St.f3 hs50
    have hs52 := St.f3 hs51
    refine ops_done (by kernel_rfl) ⟨hs52, ?_⟩
    refine zA (.tuple #[(zi r42.1), (zi r42.2)]) 6 hs52 ?_
    refine zA (zi r42.1) 7 hs52 ?_
    refine zA (zi r42.2) 8 hs52 ?_
    refine zA (zi r42.1) 9 hs52 ?_
    refine zA (zi r42.2) 10 hs52 ?_
    refine any_done (by kernel_rfl) ?_
    refine hK38 _ _ ?_
    refine W.seq fun K53 hK53 => ?_
    refine W.sr fun K54 hK54 => ?_
    refine zE 2 (hK54 _ _ ?_)
    refine W.cond (!decide (r42.2 = 0)) (by kernel_rfl) (fun h55 => ?_) (fun h55 => ?_)
    rotate_left
    ·
     have h55p : r42.2 = 0 := of_decide_eq_true (bnot_false h55)
     replace hm := ite_yes hm h55p
     refine W.skip ?_
     refine hK53 _ _ ?_
     refine W.sr fun K56 hK56 => ?_
     refine zR 1 ?_
     refine zG ⟨b4, 0, none⟩ [(zi gw), (zi gi), (zi gb)] (cells_sub (hs48.heapAt 2 rfl) rfl) ?_
     refine zR 1 ?_
     obtain ⟨r57, h58, hm⟩ := bind_some hm
     replace h58 := some_inj h58
     refine ops_call0 hs48 (by kernel_rfl) (ig_spec (gw := gw) (gi := gi) (gb := gb) (n_ := r42.1) (hv := (hs48.entAt 0 rfl viewA_at)) B _) ?_
     rintro _ _ w59 ⟨hv61, hH62⟩ hs60
     rw [h58] at hv61
     try rw [h58] at hH62
     subst hv61 hH62
     have hs63 := St.ap0 hs60
     refine zR 3 ?_
     refine zN [(zu 0), (zu 0), (zu 0), (zu 0), (zu 0), (zu 0), (zu 0), (zu 0), (zu 0), (zu 0)] 61 hs63 fun b66 w64 hs65 => ?_
     refine zT 0 [(zu r57.1.k), (zu r57.1.l), (zu r57.1.o), (zu r57.1.s), (zu r57.1.a), (zu r57.1.b), (zu r57.1.c), (zu r57.1.d), (zu r57.1.e), (zu r57.1.m)] [(zu r57.1.k), (zu r57.1.l), (zu r57.1.o), (zu r57.1.s), (zu r57.1.a), (zu r57.1.b), (zu r57.1.c), (zu r57.1.d), (zu r57.1.e), (zu r57.1.m)] hs65 fun w67 hs69 => ?_
     refine zE 1 (hK56 _ _ ?_)
     refine W.seq_join (fun s_ w_ => ∃ (p70 : Int), (∃ us, s_ = slots 75 [(8, (zi p70)), (10, (.slice a21 r23.1.length c22)), (11, (zi r36)), (12, (zi r42.1))] us) ∧ St B w l0 w_ [kStr.row a21 c22 r23.1, zb b66 61 [(zu r57.1.k), (zu r57.1.l), (zu r57.1.o), (zu r57.1.s), (zu r57.1.a), (zu r57.1.b), (zu r57.1.c), (zu r57.1.d), (zu r57.1.e), (zu r57.1.m)], viewA (ptr vb) img l, zb b4 33 [(zi gw), (zi gi), (zi gb)], zb b14 53 [(zp vb), (zi gw), (zi gi), (zi gb)]] ∧ pParent_J2 r23 r36 r42 p70 = some r) ?_ ?_
     ·
      rintro _ w71 ⟨p70, ⟨us, rfl⟩, hs72, hm⟩
      unfold pParent_J2 at hm
      refine W.seq fun K73 hK73 => ?_
      refine W.sr fun K74 hK74 => ?_
      refine zE 2 (hK74 _ _ ?_)
      refine W.cond (!decide (p70 = 0)) (by kernel_rfl) (fun h75 => ?_) (fun h75 => ?_)
      rotate_left
      ·
       have h75p : p70 = 0 := of_decide_eq_true (bnot_false h75)
       replace hm := ite_yes hm h75p
       refine W.skip ?_
       refine hK73 _ _ ?_
       refine W.seq fun K76 hK76 => ?_
       have hs77 := hs72.drew
       refine W.regionD [(0, 0), (0, 0), (0, 0), (6, 6), (8, 8), (1, 1), (63, 16), (127, 0)] (fun w_ => St B w l0 w_ [kStr.row a21 c22 r23.1, zb b66 61 [(zu r57.1.k), (zu r57.1.l), (zu r57.1.o), (zu r57.1.s), (zu r57.1.a), (zu r57.1.b), (zu r57.1.c), (zu r57.1.d), (zu r57.1.e), (zu r57.1.m)], viewA (ptr vb) img l, zb b4 33 [(zi gw), (zi gi), (zi gb)], zb b14 53 [(zp vb), (zi gw), (zi gi), (zi gb)]]) (by kernel_rfl) hs77 ?_
       refine zA (zi r42.1) 0 hs77 ?_
       refine zA (.slice a21 r23.1.length c22) 1 hs77 ?_
       refine zA (zi r36) 2 hs77 ?_
       obtain ⟨h79, hm⟩ := need_some hm
       have hk78 := lt_toNat h79
       refine any_R 3 (by kernel_rfl) (fun _ hS_ => runs_index (a := a21) (n := r23.1.length) (z := r36) (size := 1) r36.toNat (nat_of h79.1) hk78 (kStr.addr (St.kcells kStr hs77 0 rfl) hk78) (by kernel_rfl)) hs77 ?_
       refine zB 4 ((adr a21 (r36.toNat * 1)).add 0) (.string (r23.1.getD r36.toNat ByteArray.empty)) (fun _ hS_ => (kStr.at (St.kcells kStr hS_ 0 rfl) hk78 ByteArray.empty 0 rfl)) hs77 ?_
       refine zA (zi r42.1) 5 hs77 ?_
       refine zA (.string (r23.1.getD r36.toNat ByteArray.empty)) 6 hs77 ?_
       refine zA (zi 0) 7 hs77 ?_
       refine any_done (by kernel_rfl) ?_
       refine hK76 _ _ ?_
       refine W.ret ?_
       obtain rfl := some_inj hm
       have hs80 := St.f2 hs77
       have hs81 := St.tk1 hs80
       refine ret_of (.tuple #[(zi r42.1), (.string (r23.1.getD r36.toNat ByteArray.empty)), (zi 0)]) (by kernel_rfl) ⟨_, ⟨rfl, rfl⟩, hs81⟩
      have h75p : ¬ (p70 = 0) := of_decide_eq_false (bnot_true h75)
      replace hm := ite_no hm h75p
      refine W.sr fun K82 hK82 => ?_
      refine zE 4 (hK82 _ _ ?_)
      refine W.ret (ret_seq ?_)
      obtain rfl := some_inj hm
      have hs83 := St.f2 hs72
      have hs84 := St.tk1 hs83
      refine ret_of (.tuple #[(zi 0), (.string ByteArray.empty), (zi p70)]) (by kernel_rfl) ⟨_, ⟨rfl, rfl⟩, hs84⟩
     refine W.sr fun K85 hK85 => ?_
     refine zR 3 ?_
     rcases Bool.eq_false_or_eq_true (decide (r57.2 = 0)) with h86 | h86
     ·
      obtain ⟨h86p, hm⟩ := iY hm h86
      refine zS 62 h86 ?_
      refine zS 61 h86 ?_
      refine zR 1 ?_
      refine zL ⟨b66, 0, none⟩ (zu r57.1.k) (hs69.cellAt 0 rfl rfl) ?_
      refine zE 2 (hK85 _ _ ?_)
      refine W.cond (!decide (r57.1.k = 2)) (by kernel_rfl) (fun h87 => ?_) (fun h87 => ?_)
      rotate_left
      ·
       have h87p : r57.1.k = 2 := of_decide_eq_true (bnot_false h87)
       replace hm := ite_yes hm h87p
       refine W.skip ?_
       have hs88 := St.f4 hs69
       have hs89 := St.f4 hs88
       have hs90 := St.f3 hs89
       have hs91 := St.f3 hs90
       have hs92 := St.f4 hs91
       exact ⟨r57.2, slots_intro _ (by kernel_rfl), hs92, hm⟩
      have h87p : ¬ (r57.1.k = 2) := of_decide_eq_false (bnot_true h87)
      replace hm := ite_no hm h87p
      refine W.region ?_
      refine zE 1 ?_
      have hs93 := St.f4 hs69
      have hs94 := St.f4 hs93
      have hs95 := St.f3 hs94
      have hs96 := St.f3 hs95
      have hs97 := St.f4 hs96
      exact ⟨10, slots_intro _ (by kernel_rfl), hs97, hm⟩
     obtain ⟨h86p, hm⟩ := iN hm h86
     refine zS 62 h86 ?_
     refine zS 61 h86 ?_
     refine zE 4 (hK85 _ _ ?_)
     refine W.cond_false false (by kernel_rfl) rfl ?_
     refine W.skip ?_
     have hs98 := St.f4 hs69
     have hs99 := St.f4 hs98
     have hs100 := St.f3 hs99
     have hs101 := St.f3 hs100
     have hs102 := St.f4 hs101
     exact ⟨r57.2, slots_intro _ (by kernel_rfl), hs102, hm⟩
    have h55p : ¬ (r42.2 = 0) := of_decide_eq_false (bnot_true h55)
    replace hm := ite_no hm h55p
    refine W.sr fun K103 hK103 => ?_
    refine zE 4 (hK103 _ _ ?_)
    refine W.ret (ret_seq ?_)
    obtain rfl := some_inj hm
    have hs104 := St.tk1 hs48
    refine ret_of (.tuple #[(zi 0), (.string ByteArray.empty), (zi r42.2)]) (by kernel_rfl) ⟨_, ⟨rfl, rfl⟩, hs104⟩
   have h33p : ¬ (p28 = 0) := of_decide_eq_false (bnot_true h33)
   replace hm := ite_no hm h33p
   refine W.sr fun K105 hK105 => ?_
   refine zE 4 (hK105 _ _ ?_)
   refine W.ret (ret_seq ?_)
   obtain rfl := some_inj hm
   have hs106 := St.tk1 hs30
   refine ret_of (.tuple #[(zi 0), (.string ByteArray.empty), (zi p28)]) (by kernel_rfl) ⟨_, ⟨rfl, rfl⟩, hs106⟩
  refine W.sr fun K107 hK107 => ?_
  refine zR 3 ?_
  rcases Bool.eq_false_or_eq_true (decide (r23.2 = 0)) with h108 | h108
  ·
   obtain ⟨h108p, hm⟩ := iY hm h108
   refine zS 30 h108 ?_
   refine zS 29 h108 ?_
   refine zE 4 (hK107 _ _ ?_)
   refine W.cond (decide ((r23.1.length : Int) = 0)) (by kernel_rfl) (fun h109 => ?_) (fun h109 => ?_)
   ·
    obtain ⟨h109p, hm⟩ := iY hm h109
    refine W.region ?_
    refine zE 1 ?_
    have hs110 := St.f1 hs27
    have hs111 := St.f2 hs110
    have hs112 := St.f3 hs111
    exact ⟨13, slots_intro _ (by kernel_rfl), hs112, hm⟩
   obtain ⟨h109p, hm⟩ := iN hm h109
   refine W.skip ?_
   have hs113 := St.f1 hs27
   have hs114 := St.f2 hs113
   have hs115 := St.f3 hs114
   exact ⟨r23.2, slots_intro _ (by kernel_rfl), hs115, hm⟩
  obtain ⟨h108p, hm⟩ := iN hm h108
  refine zS 30 h108 ?_
  refine zS 29 h108 ?_
  refine zE 4 (hK107 _ _ ?_)
  refine W.cond_false false (by kernel_rfl) rfl ?_
  refine W.skip ?_
  have hs116 := St.f1 hs27
  have hs117 := St.f2 hs116
  have hs118 := St.f3 hs117
  exact ⟨r23.2, slots_intro _ (by kernel_rfl), hs118, hm⟩
 obtain ⟨h8p, hm⟩ := iN hm h8
 refine zC00 hs3 (popen_err (gw := gw) (gi := gi) (gb := gb) (hv := (hs3.entAt 1 rfl viewA_at)) (hN := h8p) B _) fun w119 hs121 => ?_
 refine zR 3 ?_
 refine zN [(.pointer none), (zi 0), (zi 0), (zi 0)] 53 hs121 fun b124 w122 hs123 => ?_
 refine zT 0 [(.pointer none), (zi 0), (zi 0), (zi 0)] [(.pointer none), (zi 0), (zi 0), (zi 0)] hs123 fun w125 hs127 => ?_
 refine zR 1 ?_
 obtain ⟨r128, h129, hm⟩ := bind_some hm
 replace h129 := some_inj h129
 refine ops_set 8 (v := .int .i64 r128) (Eq.trans (by kernel_rfl) (congrArg (Value.int .i64) h129)) ?_
 refine zD (hK7 _ _ ?_)
 refine W.seq fun K130 hK130 => ?_
 refine W.sr fun K131 hK131 => ?_
 refine zE 2 (hK131 _ _ ?_)
 refine W.cond (!decide (r128 = 0)) (by kernel_rfl) (fun h132 => ?_) (fun h132 => ?_)
 rotate_left
 ·
  have h132p : r128 = 0 := of_decide_eq_true (bnot_false h132)
  exact absurd h132p (fun e_ => (show ¬ ((if May gw gi gb then (8 : Int) else 1) = 0) by split <;> decide) (h129.trans e_))
 have h132p : ¬ (r128 = 0) := of_decide_eq_false (bnot_true h132)
 replace hm := ite_no hm h132p
 refine W.sr fun K133 hK133 => ?_
 refine zE 4 (hK133 _ _ ?_)
 refine W.ret (ret_seq ?_)
 obtain rfl := some_inj hm
 have hs134 := St.f2 hs127
 have hs135 := St.tk1 hs134
 refine ret_of (.tuple #[(zi 0), (.string ByteArray.empty), (zi r128)]) (by kernel_rfl) ⟨_, ⟨rfl, rfl⟩, hs135⟩
end Go.Proofs.Ytmmclabkkigiaaa

set_option maxRecDepth 20000
set_option maxHeartbeats 4000000
namespace Go.Proofs.Ytmmclabkkigiaaa
open Go Go.RowKit
def pWithin_J2 (a_ : Int) (k27 : (Int × Int) → Option (Bool × Int)) (p25 : Int) (p26 : Int) (r38 : Nd × Int) (p52 : Bool) : Option (Bool × Int) :=
 if p52 = true then (if r38.2 = 0 then (some (decide (a_ = p25), r38.2)) else (some (false, r38.2))) else (need (-9223372036854775808 ≤ r38.1.m ∧ r38.1.m ≤ 9223372036854775807) <|
need (-9223372036854775808 ≤ (p26 + 1) ∧ (p26 + 1) ≤ 9223372036854775807) <|
k27 (r38.1.m, (p26 + 1)))
def pWithin_B0 (img : List Int) (l : List (Int × Int)) (gw : Int) (gi : Int) (gb : Int) (a_ : Int) (k27 : (Int × Int) → Option (Bool × Int)) (p25 : Int) (p26 : Int) : Option (Bool × Int) :=
 if p26 < (gi + 1) then ((some (igetM img l gw gi gb p25)).bind fun r38 =>
if r38.2 = 0 then (if a_ = p25 then (pWithin_J2 a_ k27 p25 p26 r38 true) else (pWithin_J2 a_ k27 p25 p26 r38 (decide (r38.1.m = 0)))) else (pWithin_J2 a_ k27 p25 p26 r38 true)) else (some (false, 4))
def pWithin_M (img : List Int) (l : List (Int × Int)) (gw : Int) (gi : Int) (gb : Int) (a_ : Int) (b_ : Int) : Option (Bool × Int) :=
 (some (igetM img l gw gi gb a_)).bind fun r7 =>
if r7.2 = 0 then (need (-9223372036854775808 ≤ (gi + 1) ∧ (gi + 1) ≤ 9223372036854775807) <|
iter (fun k_ s_ => pWithin_B0 img l gw gi gb a_ k_ s_.1 s_.2) FUEL (b_, 0)) else (some (false, r7.2))
theorem pWithin_walk {img : List Int} {l : List (Int × Int)} {gw : Int} {gi : Int} {gb : Int} {a_ : Int} {b_ : Int} {vb : Nat} {r : Bool × Int} (B : Nat) (w : World) (hm : pWithin_M img l gw gi gb a_ b_ = some r) : Spec Try.prog 15 #[(zp vb), (.agg #[(zi gw), (zi gi), (zi gb)]), (zi a_), (zi b_)] B w [viewA (ptr vb) img l] (fun v H' => v = (.tuple #[(.bool r.1), (zi r.2)]) ∧ H' = [viewA (ptr vb) img l]) := by
 refine spec_W Try.func15 rfl fun l0 hs => ?_
 unfold pWithin_M at hm
 refine W.sr fun K1 hK1 => ?_
 refine zN [(zi gw), (zi gi), (zi gb)] 33 hs fun b4 w2 hs3 => ?_
 refine zE 2 (hK1 _ _ ?_)
 refine W.seq fun K5 hK5 => ?_
 refine W.sr fun K6 hK6 => ?_
 refine zR 1 ?_
 refine zG ⟨b4, 0, none⟩ [(zi gw), (zi gi), (zi gb)] (cells_sub (hs3.heapAt 0 rfl) rfl) ?_
 refine zR 1 ?_
 obtain ⟨r7, h8, hm⟩ := bind_some hm
 replace h8 := some_inj h8
 refine ops_call0 hs3 (by kernel_rfl) (ig_spec (gw := gw) (gi := gi) (gb := gb) (n_ := a_) (hv := (hs3.entAt 1 rfl viewA_at)) B _) ?_
 rintro _ _ w9 ⟨hv11, hH12⟩ hs10
 rw [h8] at hv11
 try rw [h8] at hH12
 subst hv11 hH12
 have hs13 := St.ap0 hs10
 refine zR 3 ?_
 refine zN [(zu 0), (zu 0), (zu 0), (zu 0), (zu 0), (zu 0), (zu 0), (zu 0), (zu 0), (zu 0)] 61 hs13 fun b16 w14 hs15 => ?_
 refine zT 0 [(zu r7.1.k), (zu r7.1.l), (zu r7.1.o), (zu r7.1.s), (zu r7.1.a), (zu r7.1.b), (zu r7.1.c), (zu r7.1.d), (zu r7.1.e), (zu r7.1.m)] [(zu r7.1.k), (zu r7.1.l), (zu r7.1.o), (zu r7.1.s), (zu r7.1.a), (zu r7.1.b), (zu r7.1.c), (zu r7.1.d), (zu r7.1.e), (zu r7.1.m)] hs15 fun w17 hs19 => ?_
 refine zE 1 (hK6 _ _ ?_)
 refine W.sr fun K20 hK20 => ?_
 refine zE 2 (hK20 _ _ ?_)
 refine W.cond (!decide (r7.2 = 0)) (by kernel_rfl) (fun h21 => ?_) (fun h21 => ?_)
 rotate_left
 ·
  have h21p : r7.2 = 0 := of_decide_eq_true (bnot_false h21)
  replace hm := ite_yes hm h21p
  refine W.skip ?_
  refine hK5 _ _ ?_
  refine W.seq fun K22 hK22 => ?_
  refine W.sr fun K23 hK23 => ?_
  refine zR 1 ?_
  refine zL ⟨b4, 1, none⟩ (zi gi) (hs19.cellAt 1 rfl rfl) ?_
  obtain ⟨h24, hm⟩ := need_some hm
  refine zI _ (wrap_i64 h24.1 h24.2) ?_
  refine zE 1 (hK23 _ _ ?_)
  refine W.block ?_
  have hs31 := St.f1 hs19
  have hs32 := St.f2 hs31
  refine W.loop_iter (G := Int × Int) (σ := Int × Int) (fun | (p25, p26) => (p25, p26)) (fun | (p25, p26), s_, w_ => (∃ us, s_ = slots 60 [(0, (zp vb)), (2, (zi a_)), (3, (zi p25)), (5, (zp b4)), (26, (zi (gi + 1))), (27, (zi p26))] us) ∧ St B w l0 w_ [viewA (ptr vb) img l, zb b4 33 [(zi gw), (zi gi), (zi gb)], zb b16 61 [(zu r7.1.k), (zu r7.1.l), (zu r7.1.o), (zu r7.1.s), (zu r7.1.a), (zu r7.1.b), (zu r7.1.c), (zu r7.1.d), (zu r7.1.e), (zu r7.1.m)]]) (b_, 0) ⟨slots_intro _ (by kernel_rfl), hs32⟩ hm ?_
  rintro k27 ih28 ⟨p25, p26⟩ _ w29 ⟨⟨us, rfl⟩, hs30⟩ hm
  replace hm : pWithin_B0 img l gw gi gb a_ k27 p25 p26 = some r := hm
  unfold pWithin_B0 at hm
  refine W.sr fun K33 hK33 => ?_
  refine zE 1 (hK33 _ _ ?_)
  refine W.seq fun K34 hK34 => ?_
  refine W.cond (decide (p26 < (gi + 1))) (by kernel_rfl) (fun h35 => ?_) (fun h35 => ?_)
  ·
   obtain ⟨h35p, hm⟩ := iY hm h35
   refine W.skip ?_
   refine hK34 _ _ ?_
   refine W.seq fun K36 hK36 => ?_
   refine W.block ?_
   refine W.sr fun K37 hK37 => ?_
   refine zR 1 ?_
   refine zG ⟨b4, 0, none⟩ [(zi gw), (zi gi), (zi gb)] (cells_sub (hs30.heapAt 1 rfl) rfl) ?_
   refine zR 1 ?_
   obtain ⟨r38, h39, hm⟩ := bind_some hm
   replace h39 := some_inj h39
   refine ops_call0 hs30 (by kernel_rfl) (ig_spec (gw := gw) (gi := gi) (gb := gb) (n_ := p25) (hv := (hs30.entAt 0 rfl viewA_at)) B _) ?_
   rintro _ _ w40 ⟨hv42, hH43⟩ hs41
   rw [h39] at hv42
   try rw [h39] at hH43
   subst hv42 hH43
   have hs44 := St.ap0 hs41
   refine zR 3 ?_
   refine zN [(zu 0), (zu 0), (zu 0), (zu 0), (zu 0), (zu 0), (zu 0), (zu 0), (zu 0), (zu 0)] 61 hs44 fun b47 w45 hs46 => ?_
   refine zT 0 [(zu r38.1.k), (zu r38.1.l), (zu r38.1.o), (zu r38.1.s), (zu r38.1.a), (zu r38.1.b), (zu r38.1.c), (zu r38.1.d), (zu r38.1.e), (zu r38.1.m)] [(zu r38.1.k), (zu r38.1.l), (zu r38.1.o), (zu r38.1.s), (zu r38.1.a), (zu r38.1.b), (zu r38.1.c), (zu r38.1.d), (zu r38.1.e), (zu r38.1.m)] hs46 fun w48 hs50 => ?_
   refine zE 1 (hK37 _ _ ?_)
   refine W.seq fun K51 hK51 => ?_
   refine W.seq_join (fun s_ w_ => ∃ (p52 : Bool), (∃ us, s_ = slots 60 [(0, (zp vb)), (2, (zi a_)), (3, (zi p25)), (5, (zp b4)), (12, (zp b47)), (13, (zi r38.2)), (26, (zi (gi + 1))), (27, (zi p26)), (47, (.bool p52))] us) ∧ St B w l0 w_ [viewA (ptr vb) img l, zb b4 33 [(zi gw), (zi gi), (zi gb)], zb b47 61 [(zu r38.1.k), (zu r38.1.l), (zu r38.1.o), (zu r38.1.s), (zu r38.1.a), (zu r38.1.b), (zu r38.1.c), (zu r38.1.d), (zu r38.1.e), (zu r38.1.m)], zb b16 61 [(zu r7.1.k), (zu r7.1.l), (zu r7.1.o), (zu r7.1.s), (zu r7.1.a), (zu r7.1.b), (zu r7.1.c), (zu r7.1.d), (zu r7.1.e), (zu r7.1.m)]] ∧ pWithin_J2 a_ k27 p25 p26 r38 p52 = some r) ?_ ?_
   ·
    rintro _ w53 ⟨p52, ⟨us, rfl⟩, hs54, hm⟩
    unfold pWithin_J2 at hm
    refine W.cond p52 (by kernel_rfl) (fun h55 => ?_) (fun h55 => ?_)
    ·
     have h55p : p52 = true := h55
     replace hm := ite_yes hm h55p
     refine W.sr fun K56 hK56 => ?_
     refine zR 3 ?_
     rcases Bool.eq_false_or_eq_true (decide (r38.2 = 0)) with h57 | h57
     ·
      obtain ⟨h57p, hm⟩ := iY hm h57
      refine zS 50 h57 ?_
      refine zS 49 h57 ?_
      refine zE 7 (hK56 _ _ ?_)
      refine W.ret (ret_seq (ret_block (ret_seq (ret_seq (ret_block (ret_seq ?_))))))
      obtain rfl := some_inj hm
      have hs58 := St.tk1 hs54
      refine ret_of (.tuple #[(.bool (decide (a_ = p25))), (zi r38.2)]) (by kernel_rfl) ⟨_, ⟨rfl, rfl⟩, hs58⟩
     obtain ⟨h57p, hm⟩ := iN hm h57
     refine zS 50 h57 ?_
     refine zS 49 h57 ?_
     refine zE 7 (hK56 _ _ ?_)
     refine W.ret (ret_seq (ret_block (ret_seq (ret_seq (ret_block (ret_seq ?_))))))
     obtain rfl := some_inj hm
     have hs59 := St.tk1 hs54
     refine ret_of (.tuple #[(.bool false), (zi r38.2)]) (by kernel_rfl) ⟨_, ⟨rfl, rfl⟩, hs59⟩
    have h55p : ¬ (p52 = true) := ne_true_of_eq_false h55
    replace hm := ite_no hm h55p
    refine W.skip ?_
    refine hK51 _ _ ?_
    refine W.region ?_
    refine zR 1 ?_
    refine zL ⟨b47, 9, none⟩ (zu r38.1.m) (hs54.cellAt 2 rfl rfl) ?_
    obtain ⟨h60, hm⟩ := need_some hm
    refine zI _ (wrap_i64 h60.1 h60.2) ?_
    refine zE 1 ?_
    refine normal_block ?_
    refine hK36 _ _ ?_
    refine W.region ?_
    obtain ⟨h61, hm⟩ := need_some hm
    refine zI _ (wrap_i64 h61.1 h61.2) ?_
    refine zE 1 ?_
    have hs62 := St.f3 hs54
    have hs63 := St.f2 hs62
    have hs64 := St.f2 hs63
    have hs65 := St.tk3 hs64
    refine loopAt_next ?_
    exact ih28 (r38.1.m, (p26 + 1)) _ _ ⟨slots_intro _ (by kernel_rfl), hs65⟩ hm
   refine W.region ?_
   refine zR 3 ?_
   rcases Bool.eq_false_or_eq_true (!decide (r38.2 = 0)) with h66 | h66
   rotate_left
   ·
    have h66p : r38.2 = 0 := of_decide_eq_true (bnot_false h66)
    replace hm := ite_yes hm h66p
    refine zS 38 h66 ?_
    refine zS 37 h66 ?_
    refine zR 5 ?_
    rcases Bool.eq_false_or_eq_true (decide (a_ = p25)) with h67 | h67
    ·
     obtain ⟨h67p, hm⟩ := iY hm h67
     refine zS 43 h67 ?_
     refine zS 41 h67 ?_
     refine zS 42 h67 ?_
     refine zE 4 ?_
     have hs68 := St.f3 hs50
     have hs69 := St.f1 hs68
     have hs70 := St.f3 hs69
     have hs71 := St.f3 hs70
     exact ⟨true, slots_intro _ (by kernel_rfl), hs71, hm⟩
    obtain ⟨h67p, hm⟩ := iN hm h67
    refine zS 43 h67 ?_
    refine zS 41 h67 ?_
    refine zS 42 h67 ?_
    refine zR 1 ?_
    refine zL ⟨b47, 9, none⟩ (zu r38.1.m) (hs50.cellAt 0 rfl rfl) ?_
    refine zE 2 ?_
    have hs72 := St.f3 hs50
    have hs73 := St.f1 hs72
    have hs74 := St.f3 hs73
    have hs75 := St.f3 hs74
    exact ⟨(decide (r38.1.m = 0)), slots_intro _ (by kernel_rfl), hs75, hm⟩
   have h66p : ¬ (r38.2 = 0) := of_decide_eq_false (bnot_true h66)
   replace hm := ite_no hm h66p
   refine zS 38 h66 ?_
   refine zS 37 h66 ?_
   refine zE 9 ?_
   have hs76 := St.f3 hs50
   have hs77 := St.f1 hs76
   have hs78 := St.f3 hs77
   have hs79 := St.f3 hs78
   exact ⟨true, slots_intro _ (by kernel_rfl), hs79, hm⟩
  obtain ⟨h35p, hm⟩ := iN hm h35
  refine W.exit (exit_seq (exit_seq (exit_here ?_)))
  refine hK22 _ _ ?_
  refine W.sr fun K80 hK80 => ?_
  refine zE 2 (hK80 _ _ ?_)
  refine W.ret ?_
  obtain rfl := some_inj hm
  have hs81 := St.tk1 hs30
  refine ret_of (.tuple #[(.bool false), (zi 4)]) (by kernel_rfl) ⟨_, ⟨rfl, rfl⟩, hs81⟩
 have h21p : ¬ (r7.2 = 0) := of_decide_eq_false (bnot_true h21)
 replace hm := ite_no hm h21p
 refine W.sr fun K82 hK82 => ?_
 refine zE 3 (hK82 _ _ ?_)
 refine W.ret (ret_seq ?_)
 obtain rfl := some_inj hm
 have hs83 := St.f2 hs19
 have hs84 := St.tk1 hs83
 refine ret_of (.tuple #[(.bool false), (zi r7.2)]) (by kernel_rfl) ⟨_, ⟨rfl, rfl⟩, hs84⟩
end Go.Proofs.Ytmmclabkkigiaaa

set_option maxRecDepth 20000
namespace Go.Proofs.Ytmmclabkkigiaaa
open Go Go.RowKit
def rsame16_B0 (xs : List ByteArray) (ys : List ByteArray) (k8 : Int → Option (Bool)) (p7 : Int) : Option (Bool) :=
 if p7 < (xs.length : Int) then (need (0 ≤ p7 ∧ p7 < (xs.length : Int)) <|
need (0 ≤ p7 ∧ p7 < (ys.length : Int)) <|
if ((xs.getD p7.toNat ByteArray.empty).toList == (ys.getD p7.toNat ByteArray.empty).toList) = true then (need (-9223372036854775808 ≤ (p7 + 1) ∧ (p7 + 1) ≤ 9223372036854775807) <|
k8 (p7 + 1)) else (some false)) else (some true)
def rsame16_M (xs : List ByteArray) (ys : List ByteArray) : Option (Bool) :=
 if (xs.length : Int) = (ys.length : Int) then (iter (fun k_ s_ => rsame16_B0 xs ys k_ s_) FUEL 0) else (some false)
theorem rsame16_walk {xs : List ByteArray} {ys : List ByteArray} {xa ya : Option Addr} {xc yc : Nat} {r : Bool} (B : Nat) (w : World) (hx : CellsAt xa (kStr.cells xs) w) (hy : CellsAt ya (kStr.cells ys) w) (hm : rsame16_M xs ys = some r) : Spec Try.prog 9 #[(.slice xa xs.length xc), (.slice ya ys.length yc)] B w [] (fun v H' => v = .bool r ∧ H' = []) := by
 refine spec_Q Try.func9 rfl fun hs => ?_
 unfold rsame16_M at hm
 refine W.sr fun K1 hK1 => ?_
 refine zE 1 (hK1 _ _ ?_)
 refine W.seq fun K2 hK2 => ?_
 refine W.sr fun K3 hK3 => ?_
 refine zE 5 (hK3 _ _ ?_)
 refine W.cond (!decide ((xs.length : Int) = (ys.length : Int))) (by kernel_rfl) (fun h4 => ?_) (fun h4 => ?_)
 rotate_left
 ·
  have h4p : (xs.length : Int) = (ys.length : Int) := of_decide_eq_true (bnot_false h4)
  replace hm := ite_yes hm h4p
  refine W.skip ?_
  refine hK2 _ _ ?_
  refine W.seq fun K5 hK5 => ?_
  refine W.sr fun K6 hK6 => ?_
  refine zE 1 (hK6 _ _ ?_)
  refine W.block ?_
  refine W.loop_iter (G := Int) (σ := Int) (fun | p7 => p7) (fun | p7, s_, w_ => (∃ us, s_ = slots 26 [(0, (.slice xa xs.length xc)), (1, (.slice ya ys.length yc)), (5, (zi p7))] us) ∧ St B w [] w_ []) 0 ⟨slots_intro _ (by kernel_rfl), hs⟩ hm ?_
  rintro k8 ih9 p7 _ w10 ⟨⟨us, rfl⟩, hs11⟩ hm
  replace hm : rsame16_B0 xs ys k8 p7 = some r := hm
  unfold rsame16_B0 at hm
  refine W.seq fun K12 hK12 => ?_
  refine W.sr fun K13 hK13 => ?_
  refine zE 4 (hK13 _ _ ?_)
  refine W.cond (decide (p7 < (xs.length : Int))) (by kernel_rfl) (fun h14 => ?_) (fun h14 => ?_)
  ·
   obtain ⟨h14p, hm⟩ := iY hm h14
   refine W.skip ?_
   refine hK12 _ _ ?_
   refine W.seq fun K15 hK15 => ?_
   refine W.block ?_
   refine W.seq fun K16 hK16 => ?_
   have hs17 := hs11.drew
   refine W.regionD [(0, 0), (0, 0), (3, 3), (4, 4), (0, 0), (0, 0), (48, 48), (64, 64), (136, 136)] (fun w_ => St B w [] w_ []) (by kernel_rfl) hs17 ?_
   refine zA (.slice xa xs.length xc) 0 hs17 ?_
   refine zA (zi p7) 1 hs17 ?_
   obtain ⟨h19, hm⟩ := need_some hm
   have hk18 := lt_toNat h19
   refine any_R 2 (by kernel_rfl) (fun _ hS_ => runs_index (a := xa) (n := xs.length) (z := p7) (size := 1) p7.toNat (nat_of h19.1) hk18 (kStr.addr (hs17.oldCells hx) hk18) (by kernel_rfl)) hs17 ?_
   refine zB 3 ((adr xa (p7.toNat * 1)).add 0) (.string (xs.getD p7.toNat ByteArray.empty)) (fun _ hS_ => (kStr.at (hS_.oldCells hx) hk18 ByteArray.empty 0 rfl)) hs17 ?_
   refine zA (.slice ya ys.length yc) 4 hs17 ?_
   refine zA (zi p7) 5 hs17 ?_
   obtain ⟨h21, hm⟩ := need_some hm
   have hk20 := lt_toNat h21
   refine any_R 6 (by kernel_rfl) (fun _ hS_ => runs_index (a := ya) (n := ys.length) (z := p7) (size := 1) p7.toNat (nat_of h21.1) hk20 (kStr.addr (hs17.oldCells hy) hk20) (by kernel_rfl)) hs17 ?_
   refine zB 7 ((adr ya (p7.toNat * 1)).add 0) (.string (ys.getD p7.toNat ByteArray.empty)) (fun _ hS_ => (kStr.at (hS_.oldCells hy) hk20 ByteArray.empty 0 rfl)) hs17 ?_
   refine zA (.bool (!((xs.getD p7.toNat ByteArray.empty).toList == (ys.getD p7.toNat ByteArray.empty).toList))) 8 hs17 ?_
   refine any_done (by kernel_rfl) ?_
   refine hK16 _ _ ?_
   refine W.cond (!((xs.getD p7.toNat ByteArray.empty).toList == (ys.getD p7.toNat ByteArray.empty).toList)) (by kernel_rfl) (fun h22 => ?_) (fun h22 => ?_)
   rotate_left
   ·
    have h22p : ((xs.getD p7.toNat ByteArray.empty).toList == (ys.getD p7.toNat ByteArray.empty).toList) = true := (bnot_false h22)
    replace hm := ite_yes hm h22p
    refine W.skip ?_
    refine normal_block ?_
    refine hK15 _ _ ?_
    refine W.region ?_
    refine zR 1 ?_
    obtain ⟨h23, hm⟩ := need_some hm
    refine zI _ (wrap_i64 h23.1 h23.2) ?_
    refine zE 1 ?_
    refine loopAt_next ?_
    exact ih9 (p7 + 1) _ _ ⟨slots_intro _ (by kernel_rfl), hs17⟩ hm
   have h22p : ¬ (((xs.getD p7.toNat ByteArray.empty).toList == (ys.getD p7.toNat ByteArray.empty).toList) = true) := ne_true_of_eq_false (bnot_true h22)
   replace hm := ite_no hm h22p
   refine W.sr fun K24 hK24 => ?_
   refine zE 1 (hK24 _ _ ?_)
   refine W.ret (ret_block (ret_seq (ret_seq (ret_block (ret_seq ?_)))))
   obtain rfl := some_inj hm
   refine ret_of (.bool false) (by kernel_rfl) ⟨_, ⟨rfl, rfl⟩, hs17⟩
  obtain ⟨h14p, hm⟩ := iN hm h14
  refine W.exit (exit_seq (exit_seq (exit_here ?_)))
  refine hK5 _ _ ?_
  refine W.sr fun K25 hK25 => ?_
  refine zE 1 (hK25 _ _ ?_)
  refine W.ret ?_
  obtain rfl := some_inj hm
  refine ret_of (.bool true) (by kernel_rfl) ⟨_, ⟨rfl, rfl⟩, hs11⟩
 have h4p : ¬ ((xs.length : Int) = (ys.length : Int)) := of_decide_eq_false (bnot_true h4)
 replace hm := ite_no hm h4p
 refine W.sr fun K26 hK26 => ?_
 refine zE 1 (hK26 _ _ ?_)
 refine W.ret (ret_seq ?_)
 obtain rfl := some_inj hm
 refine ret_of (.bool false) (by kernel_rfl) ⟨_, ⟨rfl, rfl⟩, hs⟩
end Go.Proofs.Ytmmclabkkigiaaa

set_option maxRecDepth 20000
set_option maxHeartbeats 8000000
namespace Go.Proofs.Ytmmclabkkigiaaa
open Go Go.RowKit
def works16_M  : Option (Bool) :=
 need ((0 : Int) ≤ 0 ∧ (0 : Int) ≤ 255) <|
need ((0 : Int) ≤ 0 ∧ (0 : Int) ≤ 255) <|
need ((fmtW 1 (2 + 0 % 20) (2 + 0 % 60)).length ≤ 17592186044415) <|
(psplit_M (ByteArray.mk #[47])).bind fun r30 =>
(psplit_M (ByteArray.mk #[47, 97, 47, 98])).bind fun r38 =>
(psplit_M (ByteArray.mk #[47, 97, 47])).bind fun r46 =>
(psplit_M (ByteArray.mk #[97])).bind fun r54 =>
(psplit_M ByteArray.empty).bind fun r62 =>
(pWalk_M (fmtW 1 (2 + 0 % 20) (2 + 0 % 60)) ([]) 1 (2 + 0 % 20) (2 + 0 % 60) (ByteArray.mk #[47])).bind fun r68 =>
(pWalk_M (fmtW 1 (2 + 0 % 20) (2 + 0 % 60)) ([]) 1 (2 + 0 % 20) (2 + 0 % 60) (ByteArray.mk #[47, 97])).bind fun r75 =>
(pParent_M (fmtW 1 (2 + 0 % 20) (2 + 0 % 60)) ([]) 1 (2 + 0 % 20) (2 + 0 % 60) (ByteArray.mk #[47, 97])).bind fun r81 =>
(pWithin_M (fmtW 1 (2 + 0 % 20) (2 + 0 % 60)) ([]) 1 (2 + 0 % 20) (2 + 0 % 60) 1 1).bind fun r87 =>
if r30.2 = 0 then (if (r30.1.length : Int) = 0 then (if r38.2 = 0 then ((rsame16_M r38.1 ([(ByteArray.mk #[97]), (ByteArray.mk #[98])])).bind fun r100 =>
if r100 = true then (if r46.2 = 13 then (if r54.2 = 13 then (if r62.2 = 13 then (if r68.2 = 0 then (if r68.1 = 1 then (if r75.2 = 6 then (if r81.2.2 = 0 then (if r81.1 = 1 then (if (r81.2.1.toList == (ByteArray.mk #[97]).toList) = true then (if r87.2 = 0 then (some r87.1) else (some false)) else (some false)) else (some false)) else (some false)) else (some false)) else (some false)) else (some false)) else (some false)) else (some false)) else (some false)) else (some false)) else (some false)) else (some false)) else (some false)
theorem works16_walk   {r : Bool} (B : Nat) (w : World) (hm : works16_M = some r) : Spec Try.prog 6 #[] B w [] (fun v H' => v = .bool r ∧ H' = []) := by
 refine spec_Q Try.func6 rfl fun hs => ?_
 unfold works16_M at hm
 refine W.sr fun K1 hK1 => ?_
 refine zE 1 (hK1 _ _ ?_)
 refine W.sr fun K2 hK2 => ?_
 obtain ⟨h3, hm⟩ := need_some hm
 obtain ⟨h4, hm⟩ := need_some hm
 refine zC00 hs (small_spec (x_ := 0) (y_ := 0) (hx := h3) (hy := h4) B _) fun w5 hs7 => ?_
 refine zN [(zi 0), (zi 0), (zi 0)] 33 hs7 fun b10 w8 hs9 => ?_
 refine zT 0 [(zi 1), (zi (2 + 0 % 20)), (zi (2 + 0 % 60))] [(zi 1), (zi (2 + 0 % 20)), (zi (2 + 0 % 60))] hs9 fun w11 hs13 => ?_
 refine zD (hK2 _ _ ?_)
 refine W.sr fun K14 hK14 => ?_
 refine zG ⟨b10, 0, none⟩ [(zi 1), (zi (2 + 0 % 20)), (zi (2 + 0 % 60))] (cells_sub (hs13.heapAt 0 rfl) rfl) ?_
 refine ops_call0 hs13 (by kernel_rfl) (format_spec (gw := 1) (gi := (2 + 0 % 20)) (gb := (2 + 0 % 60)) B _) ?_
 rintro _ _ w17 ⟨a15, c16, rfl, rfl⟩ hs18
 have hs19 := St.ap1 hs18
 obtain ⟨h21, hm⟩ := need_some hm
 refine ops_call0 hs19 (by kernel_rfl) (new_spec (hc := (St.kcells kU64 hs19 0 rfl)) (hn := (St.capnil kU64 hs19 0 rfl)) (hsz := h21) B _) ?_
 rintro _ _ w22 ⟨b20, rfl, rfl⟩ hs23
 have hs24 := St.ap1 hs23
 refine zE 1 (hK14 _ _ ?_)
 refine W.seq fun K25 hK25 => ?_
 refine W.sr fun K26 hK26 => ?_
 refine zE 2 (hK26 _ _ ?_)
 refine W.cond_false false (by kernel_rfl) rfl ?_
 refine W.skip ?_
 refine hK25 _ _ ?_
 refine W.sr fun K27 hK27 => ?_
 obtain ⟨r30, h31, hm⟩ := bind_some hm
 refine ops_call0 hs24 (by kernel_rfl) (psplit_walk (tx_ := (ByteArray.mk #[47])) (hm := h31) B _) ?_
 rintro _ _ w32 ⟨a28, c29, rfl, rfl⟩ hs33
 have hs34 := St.ap1 hs33
 refine zE 5 (hK27 _ _ ?_)
 refine W.sr fun K35 hK35 => ?_
 obtain ⟨r38, h39, hm⟩ := bind_some hm
 refine ops_call0 hs34 (by kernel_rfl) (psplit_walk (tx_ := (ByteArray.mk #[47, 97, 47, 98])) (hm := h39) B _) ?_
 rintro _ _ w40 ⟨a36, c37, rfl, rfl⟩ hs41
 have hs42 := St.ap1 hs41
 refine zE 5 (hK35 _ _ ?_)
 refine W.sr fun K43 hK43 => ?_
 obtain ⟨r46, h47, hm⟩ := bind_some hm
 refine ops_call0 hs42 (by kernel_rfl) (psplit_walk (tx_ := (ByteArray.mk #[47, 97, 47])) (hm := h47) B _) ?_
 rintro _ _ w48 ⟨a44, c45, rfl, rfl⟩ hs49
 have hs50 := St.ap1 hs49
 refine zE 5 (hK43 _ _ ?_)
 refine W.sr fun K51 hK51 => ?_
 obtain ⟨r54, h55, hm⟩ := bind_some hm
 refine ops_call0 hs50 (by kernel_rfl) (psplit_walk (tx_ := (ByteArray.mk #[97])) (hm := h55) B _) ?_
 rintro _ _ w56 ⟨a52, c53, rfl, rfl⟩ hs57
 have hs58 := St.ap1 hs57
 refine zE 5 (hK51 _ _ ?_)
 refine W.sr fun K59 hK59 => ?_
 obtain ⟨r62, h63, hm⟩ := bind_some hm
 refine ops_call0 hs58 (by kernel_rfl) (psplit_walk (tx_ := ByteArray.empty) (hm := h63) B _) ?_
 rintro _ _ w64 ⟨a60, c61, rfl, rfl⟩ hs65
 have hs66 := St.ap1 hs65
 refine zE 5 (hK59 _ _ ?_)
 refine W.sr fun K67 hK67 => ?_
 refine zR 1 ?_
 refine zG ⟨b10, 0, none⟩ [(zi 1), (zi (2 + 0 % 20)), (zi (2 + 0 % 60))] (cells_sub (hs66.heapAt 7 rfl) rfl) ?_
 obtain ⟨r68, h69, hm⟩ := bind_some hm
 have hs70 := St.f5 hs66
 refine zC11 hs70 (pWalk_walk (vb := b20) (gw := 1) (gi := (2 + 0 % 20)) (gb := (2 + 0 % 60)) (tx_ := (ByteArray.mk #[47])) (img := (fmtW 1 (2 + 0 % 20) (2 + 0 % 60))) (l := []) (hm := h69) B _) fun w71 hs73 => ?_
 refine zE 5 (hK67 _ _ ?_)
 refine W.sr fun K74 hK74 => ?_
 refine zR 1 ?_
 refine zG ⟨b10, 0, none⟩ [(zi 1), (zi (2 + 0 % 20)), (zi (2 + 0 % 60))] (cells_sub (hs73.heapAt 7 rfl) rfl) ?_
 obtain ⟨r75, h76, hm⟩ := bind_some hm
 refine zC11 hs73 (pWalk_walk (vb := b20) (gw := 1) (gi := (2 + 0 % 20)) (gb := (2 + 0 % 60)) (tx_ := (ByteArray.mk #[47, 97])) (img := (fmtW 1 (2 + 0 % 20) (2 + 0 % 60))) (l := []) (hm := h76) B _) fun w77 hs79 => ?_
 refine zE 5 (hK74 _ _ ?_)
 refine W.sr fun K80 hK80 => ?_
 refine zR 1 ?_
 refine zG ⟨b10, 0, none⟩ [(zi 1), (zi (2 + 0 % 20)), (zi (2 + 0 % 60))] (cells_sub (hs79.heapAt 7 rfl) rfl) ?_
 obtain ⟨r81, h82, hm⟩ := bind_some hm
 refine zC11 hs79 (pParent_walk (vb := b20) (gw := 1) (gi := (2 + 0 % 20)) (gb := (2 + 0 % 60)) (tx_ := (ByteArray.mk #[47, 97])) (img := (fmtW 1 (2 + 0 % 20) (2 + 0 % 60))) (l := []) (hm := h82) B _) fun w83 hs85 => ?_
 refine zE 7 (hK80 _ _ ?_)
 refine W.sr fun K86 hK86 => ?_
 refine zR 1 ?_
 refine zG ⟨b10, 0, none⟩ [(zi 1), (zi (2 + 0 % 20)), (zi (2 + 0 % 60))] (cells_sub (hs85.heapAt 7 rfl) rfl) ?_
 obtain ⟨r87, h88, hm⟩ := bind_some hm
 refine zC11 hs85 (pWithin_walk (vb := b20) (gw := 1) (gi := (2 + 0 % 20)) (gb := (2 + 0 % 60)) (a_ := 1) (b_ := 1) (img := (fmtW 1 (2 + 0 % 20) (2 + 0 % 60))) (l := []) (hm := h88) B _) fun w89 hs91 => ?_
 refine zE 5 (hK86 _ _ ?_)
 refine W.sr fun K92 hK92 => ?_
 refine zR 3 ?_
 rcases Bool.eq_false_or_eq_true (decide (r30.2 = 0)) with h93 | h93
 ·
  obtain ⟨h93p, hm⟩ := iY hm h93
  refine zS 75 h93 ?_
  refine zS 74 h93 ?_
  refine zR 5 ?_
  rcases Bool.eq_false_or_eq_true (decide ((r30.1.length : Int) = 0)) with h94 | h94
  ·
   obtain ⟨h94p, hm⟩ := iY hm h94
   refine zS 80 h94 ?_
   refine zS 78 h94 ?_
   refine zS 79 h94 ?_
   refine zR 4 ?_
   rcases Bool.eq_false_or_eq_true (decide (r38.2 = 0)) with h95 | h95
   ·
    obtain ⟨h95p, hm⟩ := iY hm h95
    refine zS 84 h95 ?_
    refine zS 82 h95 ?_
    refine zS 83 h95 ?_
    refine zR 1 ?_
    refine ops_new (fun b => .slice (some ⟨b, 0, none⟩) 2 2) (.cells [(.string (ByteArray.mk #[97])), (.string (ByteArray.mk #[98]))].toArray 9 (0, 0)) hs91 (by kernel_rfl) (fun b98 w96 hs97 => ?_)
    have hs99 : St B w [] w96 [kStr.row (some ⟨b98, 0, none⟩) 2 ([(ByteArray.mk #[97]), (ByteArray.mk #[98])]), viewA (ptr b20) (fmtW 1 (2 + 0 % 20) (2 + 0 % 60)) ([]), kStr.row a60 c61 r62.1, kStr.row a52 c53 r54.1, kStr.row a44 c45 r46.1, kStr.row a36 c37 r38.1, kStr.row a28 c29 r30.1, kU64.row a15 c16 (fmtW 1 (2 + 0 % 20) (2 + 0 % 60)), zb b10 33 [(zi 1), (zi (2 + 0 % 20)), (zi (2 + 0 % 60))]] := St.kblk kStr [(ByteArray.mk #[97]), (ByteArray.mk #[98])] hs97 rfl rfl (by simp only [List.length_cons, List.length_nil]; decide)
    obtain ⟨r100, h101, hm⟩ := bind_some hm
    refine zC00 hs99 (rsame16_walk (xs := r38.1) (ys := [(ByteArray.mk #[97]), (ByteArray.mk #[98])]) (xc := c37) (yc := 2) (hx := (St.kcells kStr hs99 5 rfl)) (hy := (St.kcells kStr hs99 0 rfl)) (hm := h101) B _) fun w102 hs104 => ?_
    refine zR 2 ?_
    rcases Bool.eq_false_or_eq_true r100 with h105 | h105
    ·
     have h105p : r100 = true := h105
     replace hm := ite_yes hm h105p
     refine zS 89 h105 ?_
     refine zS 87 h105 ?_
     refine zS 88 h105 ?_
     refine zR 4 ?_
     rcases Bool.eq_false_or_eq_true (decide (r46.2 = 13)) with h106 | h106
     ·
      obtain ⟨h106p, hm⟩ := iY hm h106
      refine zS 93 h106 ?_
      refine zS 91 h106 ?_
      refine zS 92 h106 ?_
      refine zR 4 ?_
      rcases Bool.eq_false_or_eq_true (decide (r54.2 = 13)) with h107 | h107
      ·
       obtain ⟨h107p, hm⟩ := iY hm h107
       refine zS 97 h107 ?_
       refine zS 95 h107 ?_
       refine zS 96 h107 ?_
       refine zR 4 ?_
       rcases Bool.eq_false_or_eq_true (decide (r62.2 = 13)) with h108 | h108
       ·
        obtain ⟨h108p, hm⟩ := iY hm h108
        refine zS 101 h108 ?_
        refine zS 99 h108 ?_
        refine zS 100 h108 ?_
        refine zR 4 ?_
        rcases Bool.eq_false_or_eq_true (decide (r68.2 = 0)) with h109 | h109
        ·
         obtain ⟨h109p, hm⟩ := iY hm h109
         refine zS 105 h109 ?_
         refine zS 103 h109 ?_
         refine zS 104 h109 ?_
         refine zR 4 ?_
         rcases Bool.eq_false_or_eq_true (decide (r68.1 = 1)) with h110 | h110
         ·
          obtain ⟨h110p, hm⟩ := iY hm h110
          refine zS 109 h110 ?_
          refine zS 107 h110 ?_
          refine zS 108 h110 ?_
          refine zR 4 ?_
          rcases Bool.eq_false_or_eq_true (decide (r75.2 = 6)) with h111 | h111
          ·
           obtain ⟨h111p, hm⟩ := iY hm h111
           refine zS 113 h111 ?_
           refine zS 111 h111 ?_
           refine zS 112 h111 ?_
           refine zR 4 ?_
           rcases Bool.eq_false_or_eq_true (decide (r81.2.2 = 0)) with h112 | h112
           ·
            obtain ⟨h112p, hm⟩ := iY hm h112
            refine zS 117 h112 ?_
            refine zS 115 h112 ?_
            refine zS 116 h112 ?_
            refine zR 4 ?_
            rcases Bool.eq_false_or_eq_true (decide (r81.1 = 1)) with h113 | h113
            ·
             obtain ⟨h113p, hm⟩ := iY hm h113
             refine zS 121 h113 ?_
             refine zS 119 h113 ?_
             refine zS 120 h113 ?_
             refine zR 4 ?_
             rcases Bool.eq_false_or_eq_true (r81.2.1.toList == (ByteArray.mk #[97]).toList) with h114 | h114
             ·
              have h114p : (r81.2.1.toList == (ByteArray.mk #[97]).toList) = true := h114
              replace hm := ite_yes hm h114p
              refine zS 125 h114 ?_
              refine zS 123 h114 ?_
              refine zS 124 h114 ?_
              refine zR 4 ?_
              rcases Bool.eq_false_or_eq_true (decide (r87.2 = 0)) with h115 | h115
              ·
               obtain ⟨h115p, hm⟩ := iY hm h115
               refine zS 129 h115 ?_
               refine zS 127 h115 ?_
               refine zS 128 h115 ?_
               refine zE 3 (hK92 _ _ ?_)
               refine W.ret ?_
               obtain rfl := some_inj hm
               have hs116 := St.tk0 hs104
               refine ret_of (.bool r87.1) (by kernel_rfl) ⟨_, ⟨rfl, rfl⟩, hs116⟩
              obtain ⟨h115p, hm⟩ := iN hm h115
              refine zS 129 h115 ?_
              refine zS 127 h115 ?_
              refine zS 128 h115 ?_
              refine zE 3 (hK92 _ _ ?_)
              refine W.ret ?_
              obtain rfl := some_inj hm
              have hs117 := St.tk0 hs104
              refine ret_of (.bool false) (by kernel_rfl) ⟨_, ⟨rfl, rfl⟩, hs117⟩
             have h114p : ¬ ((r81.2.1.toList == (ByteArray.mk #[97]).toList) = true) := ne_true_of_eq_false h114
             replace hm := ite_no hm h114p
             refine zS 125 h114 ?_
             refine zS 123 h114 ?_
             refine zS 124 h114 ?_
             refine zE 7 (hK92 _ _ ?_)
             refine W.ret ?_
             obtain rfl := some_inj hm
             have hs118 := St.tk0 hs104
             refine ret_of (.bool false) (by kernel_rfl) ⟨_, ⟨rfl, rfl⟩, hs118⟩
            obtain ⟨h113p, hm⟩ := iN hm h113
            refine zS 121 h113 ?_
            refine zS 119 h113 ?_
            refine zS 120 h113 ?_
            refine zE 11 (hK92 _ _ ?_)
            refine W.ret ?_
            obtain rfl := some_inj hm
            have hs119 := St.tk0 hs104
            refine ret_of (.bool false) (by kernel_rfl) ⟨_, ⟨rfl, rfl⟩, hs119⟩
           obtain ⟨h112p, hm⟩ := iN hm h112
           refine zS 117 h112 ?_
           refine zS 115 h112 ?_
           refine zS 116 h112 ?_
           refine zE 15 (hK92 _ _ ?_)
           refine W.ret ?_
           obtain rfl := some_inj hm
           have hs120 := St.tk0 hs104
           refine ret_of (.bool false) (by kernel_rfl) ⟨_, ⟨rfl, rfl⟩, hs120⟩
          obtain ⟨h111p, hm⟩ := iN hm h111
          refine zS 113 h111 ?_
          refine zS 111 h111 ?_
          refine zS 112 h111 ?_
          refine zE 19 (hK92 _ _ ?_)
          refine W.ret ?_
          obtain rfl := some_inj hm
          have hs121 := St.tk0 hs104
          refine ret_of (.bool false) (by kernel_rfl) ⟨_, ⟨rfl, rfl⟩, hs121⟩
         obtain ⟨h110p, hm⟩ := iN hm h110
         refine zS 109 h110 ?_
         refine zS 107 h110 ?_
         refine zS 108 h110 ?_
         refine zE 23 (hK92 _ _ ?_)
         refine W.ret ?_
         obtain rfl := some_inj hm
         have hs122 := St.tk0 hs104
         refine ret_of (.bool false) (by kernel_rfl) ⟨_, ⟨rfl, rfl⟩, hs122⟩
        obtain ⟨h109p, hm⟩ := iN hm h109
        refine zS 105 h109 ?_
        refine zS 103 h109 ?_
        refine zS 104 h109 ?_
        refine zE 27 (hK92 _ _ ?_)
        refine W.ret ?_
        obtain rfl := some_inj hm
        have hs123 := St.tk0 hs104
        refine ret_of (.bool false) (by kernel_rfl) ⟨_, ⟨rfl, rfl⟩, hs123⟩
       obtain ⟨h108p, hm⟩ := iN hm h108
       refine zS 101 h108 ?_
       refine zS 99 h108 ?_
       refine zS 100 h108 ?_
       refine zE 31 (hK92 _ _ ?_)
       refine W.ret ?_
       obtain rfl := some_inj hm
       have hs124 := St.tk0 hs104
       refine ret_of (.bool false) (by kernel_rfl) ⟨_, ⟨rfl, rfl⟩, hs124⟩
      obtain ⟨h107p, hm⟩ := iN hm h107
      refine zS 97 h107 ?_
      refine zS 95 h107 ?_
      refine zS 96 h107 ?_
      refine zE 35 (hK92 _ _ ?_)
      refine W.ret ?_
      obtain rfl := some_inj hm
      have hs125 := St.tk0 hs104
      refine ret_of (.bool false) (by kernel_rfl) ⟨_, ⟨rfl, rfl⟩, hs125⟩
     obtain ⟨h106p, hm⟩ := iN hm h106
     refine zS 93 h106 ?_
     refine zS 91 h106 ?_
     refine zS 92 h106 ?_
     refine zE 39 (hK92 _ _ ?_)
     refine W.ret ?_
     obtain rfl := some_inj hm
     have hs126 := St.tk0 hs104
     refine ret_of (.bool false) (by kernel_rfl) ⟨_, ⟨rfl, rfl⟩, hs126⟩
    have h105p : ¬ (r100 = true) := ne_true_of_eq_false h105
    replace hm := ite_no hm h105p
    refine zS 89 h105 ?_
    refine zS 87 h105 ?_
    refine zS 88 h105 ?_
    refine zE 43 (hK92 _ _ ?_)
    refine W.ret ?_
    obtain rfl := some_inj hm
    have hs127 := St.tk0 hs104
    refine ret_of (.bool false) (by kernel_rfl) ⟨_, ⟨rfl, rfl⟩, hs127⟩
   obtain ⟨h95p, hm⟩ := iN hm h95
   refine zS 84 h95 ?_
   refine zS 82 h95 ?_
   refine zS 83 h95 ?_
   refine zE 48 (hK92 _ _ ?_)
   refine W.ret ?_
   obtain rfl := some_inj hm
   have hs128 := St.tk0 hs91
   refine ret_of (.bool false) (by kernel_rfl) ⟨_, ⟨rfl, rfl⟩, hs128⟩
  obtain ⟨h94p, hm⟩ := iN hm h94
  refine zS 80 h94 ?_
  refine zS 78 h94 ?_
  refine zS 79 h94 ?_
  refine zE 52 (hK92 _ _ ?_)
  refine W.ret ?_
  obtain rfl := some_inj hm
  have hs129 := St.tk0 hs91
  refine ret_of (.bool false) (by kernel_rfl) ⟨_, ⟨rfl, rfl⟩, hs129⟩
 obtain ⟨h93p, hm⟩ := iN hm h93
 refine zS 75 h93 ?_
 refine zS 74 h93 ?_
 refine zE 57 (hK92 _ _ ?_)
 refine W.ret ?_
 obtain rfl := some_inj hm
 have hs130 := St.tk0 hs91
 refine ret_of (.bool false) (by kernel_rfl) ⟨_, ⟨rfl, rfl⟩, hs130⟩
end Go.Proofs.Ytmmclabkkigiaaa

namespace Go.Proofs.Ytmmclabkkigiaaa
open Go Go.RowKit
set_option maxRecDepth 100000 in
set_option maxHeartbeats 4000000 in
theorem works16_eq : works16_M = some true := by decide +kernel
theorem works16_stop : Ok (· = true) ((works16_M).bind fun r => some r) := by
  rw [works16_eq]
  exact Ok.some rfl
end Go.Proofs.Ytmmclabkkigiaaa

set_option maxRecDepth 20000
set_option maxHeartbeats 1000000
namespace Go.Proofs.Ytmmclabkkigiaaa
open Go Go.RowKit
def rmay15_B0 (tx_ : ByteArray) (k15 : Int → Option (Bool)) (p14 : Int) : Option (Bool) :=
 if p14 < (tx_.size : Int) then (need (0 ≤ p14 ∧ p14 < (tx_.size : Int)) <|
if (sbyte tx_ p14) = 0 then (some false) else (need (0 ≤ p14 ∧ p14 < (tx_.size : Int)) <|
if (sbyte tx_ p14) = 47 then (some false) else (need (-9223372036854775808 ≤ (p14 + 1) ∧ (p14 + 1) ≤ 9223372036854775807) <|
k15 (p14 + 1)))) else (some true)
def rmay15_M (tx_ : ByteArray) : Option (Bool) :=
 if (tx_.size : Int) < 1 then (some false) else (if (tx_.size : Int) > 40 then (some false) else (if (tx_.toList == (ByteArray.mk #[46]).toList) = true then (some false) else (if (tx_.toList == (ByteArray.mk #[46, 46]).toList) = true then (some false) else (iter (fun k_ s_ => rmay15_B0 tx_ k_ s_) FUEL 0))))
theorem rmay15_walk {tx_ : ByteArray}  {r : Bool} (B : Nat) (w : World) (hm : rmay15_M tx_ = some r) : Spec Try.prog 21 #[(.string tx_)] B w [] (fun v H' => v = .bool r ∧ H' = []) := by
 refine spec_Q Try.func21 rfl fun hs => ?_
 unfold rmay15_M at hm
 refine W.sr fun K1 hK1 => ?_
 refine zE 1 (hK1 _ _ ?_)
 refine W.seq fun K2 hK2 => ?_
 refine W.sr fun K3 hK3 => ?_
 refine zR 4 ?_
 rcases Bool.eq_false_or_eq_true (decide ((tx_.size : Int) < 1)) with h4 | h4
 ·
  obtain ⟨h4p, hm⟩ := iY hm h4
  refine zS 7 h4 ?_
  refine zS 6 h4 ?_
  refine zE 12 (hK3 _ _ ?_)
  refine W.cond_true true (by kernel_rfl) rfl ?_
  refine W.sr fun K5 hK5 => ?_
  refine zE 1 (hK5 _ _ ?_)
  refine W.ret (ret_seq ?_)
  obtain rfl := some_inj hm
  refine ret_of (.bool false) (by kernel_rfl) ⟨_, ⟨rfl, rfl⟩, hs⟩
 obtain ⟨h4p, hm⟩ := iN hm h4
 refine zS 7 h4 ?_
 refine zS 6 h4 ?_
 refine zR 5 ?_
 rcases Bool.eq_false_or_eq_true (decide ((tx_.size : Int) > 40)) with h6 | h6
 ·
  obtain ⟨h6p, hm⟩ := iY hm h6
  refine zS 12 h6 ?_
  refine zS 10 h6 ?_
  refine zS 11 h6 ?_
  refine zE 7 (hK3 _ _ ?_)
  refine W.cond_true true (by kernel_rfl) rfl ?_
  refine W.sr fun K7 hK7 => ?_
  refine zE 1 (hK7 _ _ ?_)
  refine W.ret (ret_seq ?_)
  obtain rfl := some_inj hm
  refine ret_of (.bool false) (by kernel_rfl) ⟨_, ⟨rfl, rfl⟩, hs⟩
 obtain ⟨h6p, hm⟩ := iN hm h6
 refine zS 12 h6 ?_
 refine zS 10 h6 ?_
 refine zS 11 h6 ?_
 refine zR 4 ?_
 rcases Bool.eq_false_or_eq_true (tx_.toList == (ByteArray.mk #[46]).toList) with h8 | h8
 ·
  have h8p : (tx_.toList == (ByteArray.mk #[46]).toList) = true := h8
  replace hm := ite_yes hm h8p
  refine zS 16 h8 ?_
  refine zS 14 h8 ?_
  refine zS 15 h8 ?_
  refine zE 3 (hK3 _ _ ?_)
  refine W.cond_true true (by kernel_rfl) rfl ?_
  refine W.sr fun K9 hK9 => ?_
  refine zE 1 (hK9 _ _ ?_)
  refine W.ret (ret_seq ?_)
  obtain rfl := some_inj hm
  refine ret_of (.bool false) (by kernel_rfl) ⟨_, ⟨rfl, rfl⟩, hs⟩
 have h8p : ¬ ((tx_.toList == (ByteArray.mk #[46]).toList) = true) := ne_true_of_eq_false h8
 replace hm := ite_no hm h8p
 refine zS 16 h8 ?_
 refine zS 14 h8 ?_
 refine zS 15 h8 ?_
 refine zE 3 (hK3 _ _ ?_)
 refine W.cond (tx_.toList == (ByteArray.mk #[46, 46]).toList) (by kernel_rfl) (fun h10 => ?_) (fun h10 => ?_)
 ·
  have h10p : (tx_.toList == (ByteArray.mk #[46, 46]).toList) = true := h10
  replace hm := ite_yes hm h10p
  refine W.sr fun K11 hK11 => ?_
  refine zE 1 (hK11 _ _ ?_)
  refine W.ret (ret_seq ?_)
  obtain rfl := some_inj hm
  refine ret_of (.bool false) (by kernel_rfl) ⟨_, ⟨rfl, rfl⟩, hs⟩
 have h10p : ¬ ((tx_.toList == (ByteArray.mk #[46, 46]).toList) = true) := ne_true_of_eq_false h10
 replace hm := ite_no hm h10p
 refine W.skip ?_
 refine hK2 _ _ ?_
 refine W.seq fun K12 hK12 => ?_
 refine W.sr fun K13 hK13 => ?_
 refine zE 1 (hK13 _ _ ?_)
 refine W.block ?_
 refine W.loop_iter (G := Int) (σ := Int) (fun | p14 => p14) (fun | p14, s_, w_ => (∃ us, s_ = slots 36 [(0, (.string tx_)), (3, (zi p14))] us) ∧ St B w [] w_ []) 0 ⟨slots_intro _ (by kernel_rfl), hs⟩ hm ?_
 rintro k15 ih16 p14 _ w17 ⟨⟨us, rfl⟩, hs18⟩ hm
 replace hm : rmay15_B0 tx_ k15 p14 = some r := hm
 unfold rmay15_B0 at hm
 refine W.seq fun K19 hK19 => ?_
 refine W.sr fun K20 hK20 => ?_
 refine zE 4 (hK20 _ _ ?_)
 refine W.cond (decide (p14 < (tx_.size : Int))) (by kernel_rfl) (fun h21 => ?_) (fun h21 => ?_)
 ·
  obtain ⟨h21p, hm⟩ := iY hm h21
  refine W.skip ?_
  refine hK19 _ _ ?_
  refine W.seq fun K22 hK22 => ?_
  refine W.block ?_
  refine W.sr fun K23 hK23 => ?_
  refine zR 2 ?_
  obtain ⟨h24, hm⟩ := need_some hm
  refine ops_R (v := (.int .u8 (sbyte tx_ p14))) (runs_strIdx (b := tx_) (k := p14) h24 (by kernel_rfl)) ?_
  refine zR 2 ?_
  rcases Bool.eq_false_or_eq_true (decide ((sbyte tx_ p14) = 0)) with h25 | h25
  ·
   obtain ⟨h25p, hm⟩ := iY hm h25
   refine zS 30 h25 ?_
   refine zS 29 h25 ?_
   refine zE 5 (hK23 _ _ ?_)
   refine W.cond_true true (by kernel_rfl) rfl ?_
   refine W.sr fun K26 hK26 => ?_
   refine zE 1 (hK26 _ _ ?_)
   refine W.ret (ret_block (ret_seq (ret_seq (ret_block (ret_seq ?_)))))
   obtain rfl := some_inj hm
   refine ret_of (.bool false) (by kernel_rfl) ⟨_, ⟨rfl, rfl⟩, hs18⟩
  obtain ⟨h25p, hm⟩ := iN hm h25
  refine zS 30 h25 ?_
  refine zS 29 h25 ?_
  refine zR 2 ?_
  obtain ⟨h27, hm⟩ := need_some hm
  refine ops_R (v := (.int .u8 (sbyte tx_ p14))) (runs_strIdx (b := tx_) (k := p14) h27 (by kernel_rfl)) ?_
  refine zE 2 (hK23 _ _ ?_)
  refine W.cond (decide ((sbyte tx_ p14) = 47)) (by kernel_rfl) (fun h28 => ?_) (fun h28 => ?_)
  ·
   obtain ⟨h28p, hm⟩ := iY hm h28
   refine W.sr fun K29 hK29 => ?_
   refine zE 1 (hK29 _ _ ?_)
   refine W.ret (ret_block (ret_seq (ret_seq (ret_block (ret_seq ?_)))))
   obtain rfl := some_inj hm
   refine ret_of (.bool false) (by kernel_rfl) ⟨_, ⟨rfl, rfl⟩, hs18⟩
  obtain ⟨h28p, hm⟩ := iN hm h28
  refine W.skip ?_
  refine normal_block ?_
  refine hK22 _ _ ?_
  refine W.region ?_
  refine zR 1 ?_
  obtain ⟨h30, hm⟩ := need_some hm
  refine zI _ (wrap_i64 h30.1 h30.2) ?_
  refine zE 1 ?_
  refine loopAt_next ?_
  exact ih16 (p14 + 1) _ _ ⟨slots_intro _ (by kernel_rfl), hs18⟩ hm
 obtain ⟨h21p, hm⟩ := iN hm h21
 refine W.exit (exit_seq (exit_seq (exit_here ?_)))
 refine hK12 _ _ ?_
 refine W.sr fun K31 hK31 => ?_
 refine zE 1 (hK31 _ _ ?_)
 refine W.ret ?_
 obtain rfl := some_inj hm
 refine ret_of (.bool true) (by kernel_rfl) ⟨_, ⟨rfl, rfl⟩, hs18⟩
end Go.Proofs.Ytmmclabkkigiaaa

set_option maxRecDepth 20000
set_option maxHeartbeats 4000000
namespace Go.Proofs.Ytmmclabkkigiaaa
open Go Go.RowKit
def rsplit_J2 (tx_ : ByteArray) (k26 : ((List ByteArray) × Int × Int) → Option (List ByteArray × Int)) (q23 : List ByteArray) (p24 : Int) (p25 : Int) : Option (List ByteArray × Int) :=
 need ((0 : Int) ≤ p24 ∧ (p24 : Int) ≤ p25 ∧ p25 ≤ (tx_.size : Int)) <|
(rmay15_M (tx_.extract p24.toNat p25.toNat)).bind fun r40 =>
if r40 = true then (need ((0 : Int) ≤ p24 ∧ (p24 : Int) ≤ p25 ∧ p25 ≤ (tx_.size : Int)) <|
need (q23.length + 1 ≤ 1000000000) <|
need (-9223372036854775808 ≤ (p25 + 1) ∧ (p25 + 1) ≤ 9223372036854775807) <|
need (-9223372036854775808 ≤ (p25 + 1) ∧ (p25 + 1) ≤ 9223372036854775807) <|
k26 ((q23 ++ [(tx_.extract p24.toNat p25.toNat)]), (p25 + 1), (p25 + 1))) else (some ([], 13))
def rsplit_B0 (tx_ : ByteArray) (k26 : ((List ByteArray) × Int × Int) → Option (List ByteArray × Int)) (q23 : List ByteArray) (p24 : Int) (p25 : Int) : Option (List ByteArray × Int) :=
 if p25 ≤ (tx_.size : Int) then (if p25 < (tx_.size : Int) then (need (0 ≤ p25 ∧ p25 < (tx_.size : Int)) <|
if (sbyte tx_ p25) = 47 then (rsplit_J2 tx_ k26 q23 p24 p25) else (need (-9223372036854775808 ≤ (p25 + 1) ∧ (p25 + 1) ≤ 9223372036854775807) <|
k26 (q23, p24, (p25 + 1)))) else (rsplit_J2 tx_ k26 q23 p24 p25)) else (some (q23, 0))
def rsplit_M (tx_ : ByteArray) : Option (List ByteArray × Int) :=
 if (tx_.size : Int) < 1 then (some ([], 13)) else (if (tx_.size : Int) > 200 then (some ([], 13)) else (need ((0 : Int) ≤ 0 ∧ 0 < (tx_.size : Int)) <|
if (sbyte tx_ 0) = 47 then (if (tx_.toList == (ByteArray.mk #[47]).toList) = true then (some ([], 0)) else (iter (fun k_ s_ => rsplit_B0 tx_ k_ s_.1 s_.2.1 s_.2.2) FUEL ([], 1, 1))) else (some ([], 13))))
theorem rsplit_walk {tx_ : ByteArray}  {r : List ByteArray × Int} (B : Nat) (w : World) (hm : rsplit_M tx_ = some r) : Spec Try.prog 8 #[(.string tx_)] B w [] (fun v H' => ∃ a' c', v = .tuple #[.slice a' r.1.length c', .int .i64 r.2] ∧ H' = [kStr.row a' c' r.1]) := by
 refine spec_Q Try.func8 rfl fun hs => ?_
 unfold rsplit_M at hm
 refine W.sr fun K1 hK1 => ?_
 refine zE 2 (hK1 _ _ ?_)
 refine W.seq fun K2 hK2 => ?_
 refine W.sr fun K3 hK3 => ?_
 refine zR 4 ?_
 rcases Bool.eq_false_or_eq_true (decide ((tx_.size : Int) < 1)) with h4 | h4
 ·
  obtain ⟨h4p, hm⟩ := iY hm h4
  refine zS 10 h4 ?_
  refine zS 9 h4 ?_
  refine zE 9 (hK3 _ _ ?_)
  refine W.cond_true true (by kernel_rfl) rfl ?_
  refine W.sr fun K5 hK5 => ?_
  refine zE 2 (hK5 _ _ ?_)
  refine W.ret (ret_seq ?_)
  have hs6 := St.knil kStr hs
  obtain rfl := some_inj hm
  refine ret_of (.tuple #[(.slice none 0 0), (zi 13)]) (by kernel_rfl) ⟨_, ⟨none, 0, rfl, rfl⟩, hs6⟩
 obtain ⟨h4p, hm⟩ := iN hm h4
 refine zS 10 h4 ?_
 refine zS 9 h4 ?_
 refine zR 5 ?_
 rcases Bool.eq_false_or_eq_true (decide ((tx_.size : Int) > 200)) with h7 | h7
 ·
  obtain ⟨h7p, hm⟩ := iY hm h7
  refine zS 15 h7 ?_
  refine zS 13 h7 ?_
  refine zS 14 h7 ?_
  refine zE 4 (hK3 _ _ ?_)
  refine W.cond_true true (by kernel_rfl) rfl ?_
  refine W.sr fun K8 hK8 => ?_
  refine zE 2 (hK8 _ _ ?_)
  refine W.ret (ret_seq ?_)
  have hs9 := St.knil kStr hs
  obtain rfl := some_inj hm
  refine ret_of (.tuple #[(.slice none 0 0), (zi 13)]) (by kernel_rfl) ⟨_, ⟨none, 0, rfl, rfl⟩, hs9⟩
 obtain ⟨h7p, hm⟩ := iN hm h7
 refine zS 15 h7 ?_
 refine zS 13 h7 ?_
 refine zS 14 h7 ?_
 refine zR 1 ?_
 obtain ⟨h10, hm⟩ := need_some hm
 refine ops_R (v := (.int .u8 (sbyte tx_ 0))) (runs_strIdx (b := tx_) (k := 0) h10 (by kernel_rfl)) ?_
 refine zE 2 (hK3 _ _ ?_)
 refine W.cond (!decide ((sbyte tx_ 0) = 47)) (by kernel_rfl) (fun h11 => ?_) (fun h11 => ?_)
 rotate_left
 ·
  have h11p : (sbyte tx_ 0) = 47 := of_decide_eq_true (bnot_false h11)
  replace hm := ite_yes hm h11p
  refine W.skip ?_
  refine hK2 _ _ ?_
  refine W.seq fun K12 hK12 => ?_
  refine W.sr fun K13 hK13 => ?_
  refine zE 2 (hK13 _ _ ?_)
  refine W.cond (tx_.toList == (ByteArray.mk #[47]).toList) (by kernel_rfl) (fun h14 => ?_) (fun h14 => ?_)
  ·
   have h14p : (tx_.toList == (ByteArray.mk #[47]).toList) = true := h14
   replace hm := ite_yes hm h14p
   refine W.sr fun K15 hK15 => ?_
   refine zE 2 (hK15 _ _ ?_)
   refine W.ret (ret_seq ?_)
   have hs16 := St.knil kStr hs
   obtain rfl := some_inj hm
   refine ret_of (.tuple #[(.slice none 0 0), (zi 0)]) (by kernel_rfl) ⟨_, ⟨none, 0, rfl, rfl⟩, hs16⟩
  have h14p : ¬ ((tx_.toList == (ByteArray.mk #[47]).toList) = true) := ne_true_of_eq_false h14
  replace hm := ite_no hm h14p
  refine W.skip ?_
  refine hK12 _ _ ?_
  refine W.sr fun K17 hK17 => ?_
  refine zE 1 (hK17 _ _ ?_)
  refine W.sr fun K18 hK18 => ?_
  refine zE 1 (hK18 _ _ ?_)
  refine W.seq fun K19 hK19 => ?_
  refine W.sr fun K20 hK20 => ?_
  refine zE 1 (hK20 _ _ ?_)
  refine W.block ?_
  have hs30 := St.knil kStr hs
  refine W.loop_iter (G := (List ByteArray) × Int × Int × (Option Addr) × Nat) (σ := (List ByteArray) × Int × Int) (fun | (q23, p24, p25, m21, m22) => (q23, p24, p25)) (fun | (q23, p24, p25, m21, m22), s_, w_ => (∃ us, s_ = slots 54 [(0, (.string tx_)), (4, (.slice m21 q23.length m22)), (5, (zi p24)), (6, (zi p25))] us) ∧ St B w [] w_ [kStr.row m21 m22 q23]) ([], 1, 1, none, 0) ⟨slots_intro _ (by kernel_rfl), hs30⟩ hm ?_
  rintro k26 ih27 ⟨q23, p24, p25, m21, m22⟩ _ w28 ⟨⟨us, rfl⟩, hs29⟩ hm
  replace hm : rsplit_B0 tx_ k26 q23 p24 p25 = some r := hm
  unfold rsplit_B0 at hm
  refine W.seq fun K31 hK31 => ?_
  refine W.sr fun K32 hK32 => ?_
  refine zE 4 (hK32 _ _ ?_)
  refine W.cond (decide (p25 ≤ (tx_.size : Int))) (by kernel_rfl) (fun h33 => ?_) (fun h33 => ?_)
  ·
   obtain ⟨h33p, hm⟩ := iY hm h33
   refine W.skip ?_
   refine hK31 _ _ ?_
   refine W.seq fun K34 hK34 => ?_
   refine W.block ?_
   refine W.seq_join (fun s_ w_ => (∃ us, s_ = slots 54 [(0, (.string tx_)), (4, (.slice m21 q23.length m22)), (5, (zi p24)), (6, (zi p25))] us) ∧ St B w [] w_ [kStr.row m21 m22 q23] ∧ rsplit_J2 tx_ k26 q23 p24 p25 = some r) ?_ ?_
   ·
    rintro _ w35 ⟨⟨us, rfl⟩, hs36, hm⟩
    unfold rsplit_J2 at hm
    refine W.seq fun K37 hK37 => ?_
    refine W.sr fun K38 hK38 => ?_
    refine zR 3 ?_
    obtain ⟨h39, hm⟩ := need_some hm
    refine ops_R (v := (.string (tx_.extract p24.toNat p25.toNat))) (runs_strSlice (b := tx_) (lo := (some p24)) (hi := (some p25)) p24.toNat p25.toNat (.inl (congrArg some (nat_of h39.1))) (.inl (congrArg some (nat_of (Int.le_trans h39.1 h39.2.1)))) (by omega) (by omega) (by kernel_rfl)) ?_
    obtain ⟨r40, h41, hm⟩ := bind_some hm
    refine zC00 hs36 (rmay15_walk (tx_ := (tx_.extract p24.toNat p25.toNat)) (hm := h41) B _) fun w42 hs44 => ?_
    refine zE 1 (hK38 _ _ ?_)
    refine W.cond (!r40) (by kernel_rfl) (fun h45 => ?_) (fun h45 => ?_)
    rotate_left
    ·
     have h45p : r40 = true := (bnot_false h45)
     replace hm := ite_yes hm h45p
     refine W.skip ?_
     refine hK37 _ _ ?_
     refine W.sr fun K46 hK46 => ?_
     refine zR 4 ?_
     obtain ⟨h47, hm⟩ := need_some hm
     refine ops_R (v := (.string (tx_.extract p24.toNat p25.toNat))) (runs_strSlice (b := tx_) (lo := (some p24)) (hi := (some p25)) p24.toNat p25.toNat (.inl (congrArg some (nat_of h47.1))) (.inl (congrArg some (nat_of (Int.le_trans h47.1 h47.2.1)))) (by omega) (by omega) (by kernel_rfl)) ?_
     refine ops_new (fun b => .slice (some ⟨b, 0, none⟩) 1 1) (.cells [(.string (tx_.extract p24.toNat p25.toNat))].toArray 9 (0, 0)) hs44 (by kernel_rfl) (fun b50 w48 hs49 => ?_)
     have hs51 := St.f1 hs49
     obtain ⟨h56, hm⟩ := need_some hm
     refine ops_appendK kStr (bytes := 16) (a' := (some ⟨b50, 0, none⟩)) (c' := 1) (l := q23) (m := [(tx_.extract p24.toNat p25.toNat)]) hs51 (by kernel_rfl) (by simp) (cells_blk (hs51.heapAt 1 rfl)) (by unfold maxLen; (try simp only [List.length_cons, List.length_nil]); omega) (by (try simp only [List.length_cons, List.length_nil]); omega) (fun a52 c53 w54 hs55 => ?_)
     refine zE 1 (hK46 _ _ ?_)
     refine W.region ?_
     refine zR 1 ?_
     obtain ⟨h57, hm⟩ := need_some hm
     refine zI _ (wrap_i64 h57.1 h57.2) ?_
     refine zE 1 ?_
     refine normal_block ?_
     refine hK34 _ _ ?_
     refine W.region ?_
     refine zR 1 ?_
     obtain ⟨h58, hm⟩ := need_some hm
     refine zI _ (wrap_i64 h58.1 h58.2) ?_
     refine zE 1 ?_
     have hs59 := St.tk1 hs55
     refine loopAt_next ?_
     exact ih27 ((q23 ++ [(tx_.extract p24.toNat p25.toNat)]), (p25 + 1), (p25 + 1), a52, c53) _ _ ⟨slots_intro _ (by kernel_rfl), hs59⟩ hm
    have h45p : ¬ (r40 = true) := ne_true_of_eq_false (bnot_true h45)
    replace hm := ite_no hm h45p
    refine W.sr fun K60 hK60 => ?_
    refine zE 2 (hK60 _ _ ?_)
    refine W.ret (ret_seq (ret_block (ret_seq (ret_seq (ret_block (ret_seq ?_))))))
    have hs61 := St.knil kStr hs44
    obtain rfl := some_inj hm
    have hs62 := St.tk1 hs61
    refine ret_of (.tuple #[(.slice none 0 0), (zi 13)]) (by kernel_rfl) ⟨_, ⟨none, 0, rfl, rfl⟩, hs62⟩
   refine W.sr fun K63 hK63 => ?_
   refine zR 5 ?_
   rcases Bool.eq_false_or_eq_true (decide (p25 < (tx_.size : Int))) with h64 | h64
   ·
    obtain ⟨h64p, hm⟩ := iY hm h64
    refine zS 32 h64 ?_
    refine zS 31 h64 ?_
    refine zR 2 ?_
    obtain ⟨h65, hm⟩ := need_some hm
    refine ops_R (v := (.int .u8 (sbyte tx_ p25))) (runs_strIdx (b := tx_) (k := p25) h65 (by kernel_rfl)) ?_
    refine zE 2 (hK63 _ _ ?_)
    refine W.cond (!decide ((sbyte tx_ p25) = 47)) (by kernel_rfl) (fun h66 => ?_) (fun h66 => ?_)
    rotate_left
    ·
     have h66p : (sbyte tx_ p25) = 47 := of_decide_eq_true (bnot_false h66)
     replace hm := ite_yes hm h66p
     refine W.skip ?_
     exact ⟨slots_intro _ (by kernel_rfl), hs29, hm⟩
    have h66p : ¬ ((sbyte tx_ p25) = 47) := of_decide_eq_false (bnot_true h66)
    replace hm := ite_no hm h66p
    refine W.exit (exit_seq (exit_here ?_))
    refine hK34 _ _ ?_
    refine W.region ?_
    refine zR 1 ?_
    obtain ⟨h67, hm⟩ := need_some hm
    refine zI _ (wrap_i64 h67.1 h67.2) ?_
    refine zE 1 ?_
    refine loopAt_next ?_
    exact ih27 (q23, p24, (p25 + 1), m21, m22) _ _ ⟨slots_intro _ (by kernel_rfl), hs29⟩ hm
   obtain ⟨h64p, hm⟩ := iN hm h64
   refine zS 32 h64 ?_
   refine zS 31 h64 ?_
   refine zE 5 (hK63 _ _ ?_)
   refine W.cond_false false (by kernel_rfl) rfl ?_
   refine W.skip ?_
   exact ⟨slots_intro _ (by kernel_rfl), hs29, hm⟩
  obtain ⟨h33p, hm⟩ := iN hm h33
  refine W.exit (exit_seq (exit_seq (exit_here ?_)))
  refine hK19 _ _ ?_
  refine W.sr fun K68 hK68 => ?_
  refine zE 3 (hK68 _ _ ?_)
  refine W.ret ?_
  obtain rfl := some_inj hm
  refine ret_of (.tuple #[(.slice m21 q23.length m22), (zi 0)]) (by kernel_rfl) ⟨_, ⟨m21, m22, rfl, rfl⟩, hs29⟩
 have h11p : ¬ ((sbyte tx_ 0) = 47) := of_decide_eq_false (bnot_true h11)
 replace hm := ite_no hm h11p
 refine W.sr fun K69 hK69 => ?_
 refine zE 2 (hK69 _ _ ?_)
 refine W.ret (ret_seq ?_)
 have hs70 := St.knil kStr hs
 obtain rfl := some_inj hm
 refine ret_of (.tuple #[(.slice none 0 0), (zi 13)]) (by kernel_rfl) ⟨_, ⟨none, 0, rfl, rfl⟩, hs70⟩
end Go.Proofs.Ytmmclabkkigiaaa

namespace Go.Proofs.Ytmmclabkkigiaaa
open Go Go.RowKit
theorem Ok.got15 {α ρ : Type} {R : ρ → Prop} {x : Option α} {y : α} {f : α → Option ρ} (h : x = Option.some y) (hf : Ok R (f y)) : Ok R (x.bind f) := by
  rw [h]; exact hf
theorem toList_iff {a b : ByteArray} : (a.toList == b.toList) = true ↔ a = b := by
  rw [ByteArray.toList_eq, ByteArray.toList_eq, beq_iff_eq]
  constructor
  · intro h
    cases a; cases b
    congr 1
    exact Array.toList_inj.1 h
  · rintro rfl; rfl
def mayB (s : ByteArray) : Bool := decide (1 ≤ s.size ∧ s.size ≤ 40 ∧ badB s = false ∧ s ≠ ByteArray.mk #[46] ∧ s ≠ ByteArray.mk #[46, 46])
theorem emay_eq (s : ByteArray) : emay_M s = some (mayB s) := by
  unfold emay_M mayB
  by_cases h1 : (s.size : Int) ≥ 1
  · rw [if_pos h1]
    by_cases h2 : (s.size : Int) ≤ 40
    · rw [if_pos h2]
      refine need_of (by omega) ?_
      cases hb : badB s with
      | true => rw [if_pos rfl, decide_eq_false (by simp)]
      | false =>
        rw [if_neg (by decide)]
        by_cases h3 : s = ByteArray.mk #[46]
        · rw [if_pos (toList_iff.2 h3), decide_eq_false fun q => q.2.2.2.1 h3]
        · rw [if_neg fun q => h3 (toList_iff.1 q)]
          congr 1
          by_cases h4 : s = ByteArray.mk #[46, 46]
          · rw [decide_eq_false fun q => q.2.2.2.2 h4, toList_iff.2 h4]
            rfl
          · rw [decide_eq_true ⟨by omega, by omega, rfl, h3, h4⟩]
            have : (s.toList == (ByteArray.mk #[46, 46]).toList) = false := by
              cases hq : (s.toList == (ByteArray.mk #[46, 46]).toList) with
              | false => rfl
              | true => exact absurd (toList_iff.1 hq) h4
            rw [this]
            rfl
    · rw [if_neg h2, decide_eq_false fun q => h2 (by omega)]
  · rw [if_neg h1, decide_eq_false fun q => h1 (by omega)]
theorem mayB_iff {s : ByteArray} : mayB s = true ↔ 1 ≤ s.size ∧ s.size ≤ 40 ∧ badB s = false ∧ s ≠ ByteArray.mk #[46] ∧ s ≠ ByteArray.mk #[46, 46] := by
  unfold mayB
  exact decide_eq_true_iff
theorem sbyte_nums (s : ByteArray) {k : Int} (h : 0 ≤ k ∧ k < (s.size : Int)) : sbyte s k = (strNums s).getD k.toNat 0 := by
  have hk : k.toNat < s.size := by omega
  unfold sbyte strNums
  rw [getElem?_pos s k.toNat hk, Option.getD_some]
  have hk2 : k.toNat < s.data.size := hk
  simp only [List.getD_eq_getElem?_getD, List.getElem?_map, Array.getElem?_toList]
  rw [Array.getElem?_eq_getElem hk2]
  rfl
theorem rmay15_eqP (s : ByteArray) : rmay15_M s = some (mayB s) := by
  unfold rmay15_M
  by_cases h1 : (s.size : Int) < 1
  · rw [if_pos h1]
    unfold mayB
    rw [decide_eq_false fun q => by omega]
  rw [if_neg h1]
  by_cases h2 : (s.size : Int) > 40
  · rw [if_pos h2]
    unfold mayB
    rw [decide_eq_false fun q => by omega]
  rw [if_neg h2]
  by_cases h3 : s = ByteArray.mk #[46]
  · rw [if_pos (toList_iff.2 h3)]
    unfold mayB
    rw [decide_eq_false fun q => q.2.2.2.1 h3]
  rw [if_neg fun q => h3 (toList_iff.1 q)]
  by_cases h4 : s = ByteArray.mk #[46, 46]
  · rw [if_pos (toList_iff.2 h4)]
    unfold mayB
    rw [decide_eq_false fun q => q.2.2.2.2 h4]
  rw [if_neg fun q => h4 (toList_iff.1 q)]
  have e : mayB s = !badB s := by
    cases hb : badB s with
    | true => unfold mayB; rw [decide_eq_false fun q => by rw [q.2.2.1] at hb; cases hb]; rfl
    | false => unfold mayB; rw [decide_eq_true ⟨by omega, by omega, hb, h3, h4⟩]; rfl
  rw [e]
  refine iter_run (fun p : Int => 0 ≤ p ∧ p ≤ (s.size : Int) ∧ ∀ j : Nat, j < p.toNat → ¬ ((strNums s).getD j 0 = 47 ∨ (strNums s).getD j 0 = 0)) (fun p => ((s.size : Int) - p).toNat) ?_ _ _ ⟨by omega, by omega, fun j hj => absurd hj (Nat.not_lt_zero _)⟩ (fuel_lt (by omega))
  rintro k p ⟨h5, h6, h7⟩ ih
  unfold rmay15_B0
  by_cases hp : p < (s.size : Int)
  · rw [if_pos hp]
    refine need_of (by omega) ?_
    rw [sbyte_nums s ⟨h5, hp⟩]
    have bad : (strNums s).getD p.toNat 0 = 47 ∨ (strNums s).getD p.toNat 0 = 0 → badB s = true := fun q => badB_iff.2 ⟨p.toNat, by omega, q⟩
    by_cases h0 : (strNums s).getD p.toNat 0 = 0
    · rw [if_pos h0, bad (.inr h0)]; rfl
    rw [if_neg h0]
    refine need_of (by omega) ?_
    by_cases h47 : (strNums s).getD p.toNat 0 = 47
    · rw [if_pos h47, bad (.inl h47)]; rfl
    rw [if_neg h47]
    refine need_of (by omega) (ih _ ⟨by omega, by omega, fun j hj => ?_⟩ (by omega))
    by_cases ej : j = p.toNat
    · rw [ej]; exact fun q => q.elim h47 h0
    · exact h7 j (by omega)
  · rw [if_neg hp]
    cases hb : badB s with
    | false => rfl
    | true =>
      obtain ⟨j, hj, hc⟩ := badB_iff.1 hb
      exact absurd hc (h7 j (by omega))
end Go.Proofs.Ytmmclabkkigiaaa

namespace Go.Proofs.Ytmmclabkkigiaaa
open Go Go.RowKit
def go : List UInt8 → List UInt8 → List (List UInt8)
  | cur, [] => [cur]
  | cur, b :: t => if b = 47 then cur :: go [] t else go (cur ++ [b]) t
def bs (l : List UInt8) : ByteArray := ⟨l.toArray⟩
theorem bs_data (s : ByteArray) : bs s.data.toList = s := by
  unfold bs
  cases s
  simp
theorem data_bs (l : List UInt8) : (bs l).data.toList = l := by simp [bs]
theorem data_len (s : ByteArray) : s.data.toList.length = s.size := by rw [Array.length_toList]; rfl
theorem data_extract (s : ByteArray) (a b : Nat) : (s.extract a b).data.toList = (s.data.toList.take b).drop a := by
  simp [ByteArray.data_extract, Array.toList_extract, List.extract_eq_take_drop, List.drop_take]
theorem extract_bs (s : ByteArray) (a b : Nat) : s.extract a b = bs ((s.data.toList.take b).drop a) := by
  rw [← data_extract, bs_data]
theorem go_idx : ∀ (l cur : List UInt8), go cur l = if Lib.indexByte l 47 ≥ 0 then (cur ++ l.take (Lib.indexByte l 47).toNat) :: go [] (l.drop (Lib.indexByte l 47 + 1).toNat) else [cur ++ l]
  | [], cur => by simp [go, Lib.indexByte]
  | b :: l, cur => by
    have ih := go_idx l (cur ++ [b])
    have hr := idx_lt l
    have hgo : go cur (b :: l) = if b = 47 then cur :: go [] l else go (cur ++ [b]) l := rfl
    by_cases hb : b = 47
    · have hi : Lib.indexByte (b :: l) 47 = 0 := by rw [hb]; rfl
      rw [hgo, if_pos hb, hi, if_pos (by decide)]
      simp
    · have hi : Lib.indexByte (b :: l) 47 = if Lib.indexByte l 47 = -1 then -1 else Lib.indexByte l 47 + 1 := by
        show (if (b == 47) = true then (0 : Int) else if (Lib.indexByte l 47 == -1) = true then -1 else Lib.indexByte l 47 + 1) = _
        rw [if_neg (by simpa using hb)]
        simp only [beq_iff_eq]
      rw [hgo, if_neg hb, ih, hi]
      by_cases h1 : Lib.indexByte l 47 = -1
      · rw [h1, if_neg (by decide), if_pos rfl, if_neg (by decide)]
        simp
      · rw [if_pos (by omega), if_neg h1, if_pos (by omega), show (Lib.indexByte l 47 + 1).toNat = (Lib.indexByte l 47).toNat + 1 by omega, show (Lib.indexByte l 47 + 1 + 1).toNat = (Lib.indexByte l 47).toNat + 1 + 1 by omega, List.take_succ_cons, List.drop_succ_cons]
        simp
theorem go_part (s : ByteArray) : go [] s.data.toList = (cut1 s).1.data.toList :: (if (cut1 s).2.2 = true then go [] (cut1 s).2.1.data.toList else []) := by
  have hr := idx47_range s
  rw [go_idx]
  unfold cut1
  have e : idx47 s = Lib.indexByte s.data.toList 47 := rfl
  rw [← e]
  by_cases h : idx47 s ≥ 0
  · rw [if_pos h, if_pos h]
    simp only [if_true]
    rw [data_extract, data_extract, List.take_of_length_le (i := s.size) (by rw [data_len]; exact Nat.le_refl _)]
    simp
  · rw [if_neg h, if_neg h]
    simp
def fin : List ByteArray → List (List UInt8) → List ByteArray × Int
  | q, [] => (q, 0)
  | q, x :: r => if mayB (bs x) = true then fin (q ++ [bs x]) r else ([], 13)
theorem split_go (tx : ByteArray) : ∀ (t k : Nat) (q : List ByteArray), k + t = nParts (tx.extract 1 tx.size) → q.length ≤ k → k + t ≤ 1000000 →
    rounds (fun k_ c_ s_ => psplit_R51 tx k_ c_ s_) (fun s_ => psplit_D51 s_) t k q = some (fin q (if moreB (tx.extract 1 tx.size) k = true then go [] (restB (tx.extract 1 tx.size) k).data.toList else []))
  | 0, k, q, hk, _, _ => by
    have := (parts_end (tx.extract 1 tx.size)).1
    rw [show k = nParts (tx.extract 1 tx.size) by omega, this, if_neg (by decide)]
    rfl
  | t + 1, k, q, hk, hq, hm => by
    have hmore : moreB (tx.extract 1 tx.size) k = true := nFrom_lt _ _ 0 k (Nat.zero_le _) (show k < nParts (tx.extract 1 tx.size) by omega)
    rw [if_pos hmore, go_part]
    show psplit_R51 tx k (rounds (fun k_ c_ s_ => psplit_R51 tx k_ c_ s_) (fun s_ => psplit_D51 s_) t (k + 1)) q = _
    obtain ⟨c, hc⟩ : ∃ c, c = rounds (fun k_ c_ s_ => psplit_R51 tx k_ c_ s_) (fun s_ => psplit_D51 s_) t (k + 1) := ⟨_, rfl⟩
    rw [← hc]
    unfold psplit_R51
    refine bind_of (emay_eq _) ?_
    unfold fin
    rw [bs_data]
    show (if mayB (partAt (tx.extract 1 tx.size) k) = true then _ else _) = some (if mayB (partAt (tx.extract 1 tx.size) k) = true then _ else _)
    by_cases h : mayB (partAt (tx.extract 1 tx.size) k) = true
    · rw [if_pos h, if_pos h]
      refine need_of (by omega) ?_
      rw [hc]
      exact split_go tx t (k + 1) _ (by omega) (by rw [List.length_append]; simp only [List.length_cons, List.length_nil]; omega) (by omega)
    · rw [if_neg h, if_neg h]
      rfl
def slashB (tx : ByteArray) : Bool := decide ((tx.data.toList.head?) = some 47)
theorem take_one {l : List UInt8} (h : 1 ≤ l.length) : l.take 1 = [47] ↔ l.head? = some 47 := by
  cases l with
  | nil => simp at h
  | cons b l => simp
theorem shas_eq (tx : ByteArray) : shas_M tx = some (slashB tx) := by
  unfold shas_M slhas_M slashB
  by_cases h : (tx.size : Int) ≥ 1
  · rw [if_pos h]
    refine bind_of (need_of (by omega) rfl) ?_
    congr 1
    have hl := data_len tx
    have ht := take_one (l := tx.data.toList) (by omega)
    have he : (tx.extract 0 1).data.toList = tx.data.toList.take 1 := by rw [data_extract, List.drop_zero]
    by_cases hh : tx.data.toList.head? = some 47
    · rw [decide_eq_true hh]
      refine beq_toList.2 ?_
      rw [← bs_data (tx.extract 0 1), he, ht.2 hh]
      rfl
    · rw [decide_eq_false hh]
      cases hq : ((tx.extract 0 1).toList == (ByteArray.mk #[47]).toList) with
      | false => rfl
      | true =>
        have := beq_toList.1 hq
        rw [this] at he
        exact absurd (ht.1 he.symm) hh
  · rw [if_neg h]
    refine bind_of rfl ?_
    have hl := data_len tx
    have : tx.data.toList = [] := List.eq_nil_of_length_eq_zero (by omega)
    rw [this]
    rfl
def spl (tx : ByteArray) : List ByteArray × Int :=
  if (tx.size : Int) > 200 ∨ slashB tx = false then ([], 13) else if tx = ByteArray.mk #[47] then ([], 0) else fin [] (go [] (tx.data.toList.drop 1))
theorem ext_one (tx : ByteArray) : (tx.extract 1 tx.size).data.toList = tx.data.toList.drop 1 := by
  rw [data_extract, List.take_of_length_le (by rw [data_len]; exact Nat.le_refl _)]
theorem psplit_eq (tx : ByteArray) : psplit_M tx = some (spl tx) := by
  unfold psplit_M spl
  by_cases h1 : (tx.size : Int) > 200
  · rw [if_pos h1, if_pos (.inl h1)]
    rfl
  rw [if_neg h1]
  refine bind_of (shas_eq tx) ?_
  cases hs : slashB tx with
  | false =>
    rw [if_pos (.inr rfl)]
    rfl
  | true =>
    rw [if_neg (by rintro (h | h); exact h1 h; cases h)]
    unfold psplit_J1
    simp only [Bool.not_true, Bool.false_eq_true, if_false]
    by_cases h2 : tx = ByteArray.mk #[47]
    · rw [if_pos h2, if_pos (beq_toList.2 h2)]
    · rw [if_neg h2, if_neg fun q => h2 (beq_toList.1 q)]
      have hsz : 1 ≤ tx.size := by
        have hl := data_len tx
        cases hd : tx.data.toList with
        | nil => unfold slashB at hs; rw [hd] at hs; simp at hs
        | cons b l => rw [hd] at hl; simp at hl; omega
      have hes0 : (tx.extract 1 tx.size).size = tx.size - 1 := by rw [ByteArray.size_extract]; omega
      have hes : (tx.extract 1 tx.size).size ≤ 1000000 := by omega
      have hp := parts_end (tx.extract 1 tx.size)
      refine need_of (by omega) (need_of hes ?_)
      have := split_go tx (nParts (tx.extract 1 tx.size)) 0 [] (by omega) (Nat.le_refl _) (by omega)
      rw [this]
      show some (fin [] (if true = true then go [] (tx.extract 1 tx.size).data.toList else [])) = _
      rw [if_pos rfl, ext_one]
theorem sbyte_at {s : ByteArray} {p : Int} (hp : 0 ≤ p ∧ p < (s.size : Int)) : ∃ b, s.data.toList[p.toNat]? = some b ∧ sbyte s p = (b.toNat : Int) := by
  have hk : p.toNat < s.data.toList.length := by rw [data_len]; omega
  refine ⟨s.data.toList[p.toNat], List.getElem?_eq_getElem hk, ?_⟩
  unfold sbyte
  have hk2 : p.toNat < s.size := by omega
  rw [getElem?_pos s p.toNat hk2, Option.getD_some]
  rfl
theorem rsplit_go {tx : ByteArray} (hs : tx.size ≤ 200) {r : List ByteArray × Int} (hr : fin [] (go [] (tx.data.toList.drop 1)) = r) (h1 : 1 ≤ tx.size) : iter (fun k_ s_ => rsplit_B0 tx k_ s_.1 s_.2.1 s_.2.2) FUEL ([], 1, 1) = some r := by
  refine iter_run (fun s : List ByteArray × Int × Int => (1 ≤ s.2.1 ∧ s.2.1 ≤ s.2.2) ∧ s.2.2 ≤ (tx.size : Int) + 1 ∧ (s.1.length : Int) ≤ s.2.2 ∧
      ((s.2.2 ≤ (tx.size : Int) ∧ fin s.1 (go ((tx.data.toList.take s.2.2.toNat).drop s.2.1.toNat) (tx.data.toList.drop s.2.2.toNat)) = r) ∨ (s.2.2 = (tx.size : Int) + 1 ∧ (s.1, 0) = r))) (fun s => ((tx.size : Int) + 1 - s.2.2).toNat) ?_ _ _
    ⟨by simp, by simp only; omega, by simp, .inl ⟨by simp only; omega, ?_⟩⟩ (fuel_lt (by simp only; omega))
  rotate_left
  · simp only [Int.toNat_one]
    rw [List.drop_of_length_le (by rw [List.length_take]; exact Nat.min_le_left _ _)]
    exact hr
  rintro k ⟨q, f, i⟩ ⟨h2, h3, h4, h5⟩ ih
  simp only at h2 h3 h4 h5 ih
  show rsplit_B0 tx k q f i = _
  have hl := data_len tx
  have J2 : i ≤ (tx.size : Int) → ∀ rest : List (List UInt8), fin q (((tx.data.toList.take i.toNat).drop f.toNat) :: rest) = r → (∀ q', fin q' rest = r → (q'.length : Int) ≤ i + 1 → k (q', i + 1, i + 1) = some r) → rsplit_J2 tx k q f i = some r := by
    intro hi rest hf hk
    unfold rsplit_J2
    refine need_of (by omega) (bind_of (rmay15_eqP _) ?_)
    unfold fin at hf
    rw [extract_bs]
    by_cases hm : mayB (bs ((tx.data.toList.take i.toNat).drop f.toNat)) = true
    · rw [if_pos hm] at hf ⊢
      exact need_of (by omega) (need_of (by omega) (need_of (by omega) (need_of (by omega) (hk _ hf (by rw [List.length_append]; simp only [List.length_cons, List.length_nil]; omega)))))
    · rw [if_neg hm] at hf ⊢
      rw [← hf]
  unfold rsplit_B0
  rcases h5 with ⟨hi, hf⟩ | ⟨hi, hf⟩
  · rw [if_pos hi]
    by_cases hlt : i < (tx.size : Int)
    · rw [if_pos hlt]
      refine need_of (by omega) ?_
      obtain ⟨b, hb, eb⟩ := sbyte_at (s := tx) (p := i) (by omega)
      have hil : i.toNat < tx.data.toList.length := by omega
      have hbb : tx.data.toList[i.toNat] = b := by rw [List.getElem?_eq_getElem hil] at hb; exact some_inj hb
      rw [List.drop_eq_getElem_cons hil, hbb] at hf
      unfold go at hf
      rw [eb]
      by_cases h47 : b = 47
      · rw [if_pos h47] at hf
        rw [if_pos (by rw [h47]; rfl)]
        refine J2 hi _ hf fun q' hq' hl' => ih _ ⟨by simp only; omega, by simp only; omega, by simp only; omega, .inl ⟨by simp only; omega, ?_⟩⟩ (by simp only; omega)
        simp only
        rw [show (i + 1).toNat = i.toNat + 1 by omega, List.drop_of_length_le (l := tx.data.toList.take (i.toNat + 1)) (by rw [List.length_take]; exact Nat.min_le_left _ _)]
        exact hq'
      · rw [if_neg h47] at hf
        have hne : ¬ ((b.toNat : Int) = 47) := fun e => h47 (UInt8.toNat_inj.1 (by have : (47 : UInt8).toNat = 47 := rfl; omega))
        rw [if_neg hne]
        refine need_of (by omega) (ih _ ⟨by simp only; omega, by simp only; omega, by simp only; omega, .inl ⟨by simp only; omega, ?_⟩⟩ (by simp only; omega))
        simp only
        rw [show (i + 1).toNat = i.toNat + 1 by omega, List.take_add_one, hb]
        simp only [Option.toList_some]
        rw [List.drop_append_of_le_length (by simp only [List.length_take]; omega)]
        exact hf
    · rw [if_neg hlt]
      have hie : i.toNat = tx.data.toList.length := by omega
      rw [List.drop_of_length_le (l := tx.data.toList) (i := i.toNat) (by omega)] at hf
      unfold go at hf
      refine J2 hi [] hf fun q' hq' hl' => ih _ ⟨by simp only; omega, by simp only; omega, by simp only; omega, .inr ⟨by simp only; omega, ?_⟩⟩ (by simp only; omega)
      unfold fin at hq'
      exact hq'
  · rw [if_neg (by omega), hf]
theorem rsplit_eq (tx : ByteArray) : rsplit_M tx = some (spl tx) := by
  unfold rsplit_M spl
  have hl := data_len tx
  by_cases h0 : (tx.size : Int) < 1
  · rw [if_pos h0]
    have : tx.data.toList = [] := List.eq_nil_of_length_eq_zero (by omega)
    rw [if_pos (.inr (by unfold slashB; rw [this]; rfl))]
  rw [if_neg h0]
  by_cases h1 : (tx.size : Int) > 200
  · rw [if_pos h1, if_pos (.inl h1)]
  rw [if_neg h1]
  refine need_of (by omega) ?_
  obtain ⟨b, hb, eb⟩ := sbyte_at (s := tx) (p := 0) (by omega)
  have hh : tx.data.toList.head? = some b := by rw [← hb]; cases tx.data.toList <;> rfl
  rw [eb]
  by_cases h47 : b = 47
  · have hn : ¬ ((tx.size : Int) > 200 ∨ slashB tx = false) := by
      rintro (q | q)
      · exact h1 q
      · unfold slashB at q; rw [hh, h47] at q; simp at q
    have hb47 : (b.toNat : Int) = 47 := by rw [h47]; rfl
    rw [if_pos hb47, if_neg hn]
    by_cases h2 : tx = ByteArray.mk #[47]
    · rw [if_pos h2, if_pos (beq_toList.2 h2)]
    · rw [if_neg h2, if_neg fun q => h2 (beq_toList.1 q)]
      exact rsplit_go (by omega) rfl (by omega)
  · have hne : ¬ ((b.toNat : Int) = 47) := fun e => h47 (UInt8.toNat_inj.1 (by have : (47 : UInt8).toNat = 47 := rfl; omega))
    rw [if_neg hne, if_pos (.inr (by unfold slashB; rw [hh]; simp [h47]))]
end Go.Proofs.Ytmmclabkkigiaaa
