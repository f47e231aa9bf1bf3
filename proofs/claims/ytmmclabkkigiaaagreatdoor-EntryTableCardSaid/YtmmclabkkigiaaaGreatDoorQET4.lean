/- Texts, one behind the other: F6e, F6f, F6h, Pc, Pg, F7a, A7b, F7c, A7d, F06o, F7g, A7e, A3a, A3b, A3c, A3d. -/
import Derived.Test.YtmmclabkkigiaaaGreatDoorQET3
set_option linter.unusedVariables false
set_option linter.unusedSimpArgs false
set_option maxRecDepth 20000
set_option maxHeartbeats 2000000
namespace Go.Proofs.YtmmclabkkigiaaaGreatDoor
open Go Go.RowKit
set_option linter.unusedSimpArgs false
set_option linter.unusedVariables false

theorem sset_spec {b : Nat} {img : List Int} {l : List (Int × Int)} {at_ x_ : Int} (B : Nat) (w : World) : Spec Tryz.prog 58 #[(.pointer (some ⟨b, 0, none⟩)), (.int .i64 at_), (.int .u64 x_)] B w [viewA (ptr b) img l] (fun v H' => v = .int .i64 (vwrite img l at_ x_).1 ∧ H' = [viewA (ptr b) img (vwrite img l at_ x_).2]) := by
 refine spec_W Tryz.func58 rfl fun l0 hs => ?_
 refine W.sr fun K1 hK1 => ?_
 refine zE 1 (hK1 _ _ ?_)
 refine W.seq fun K2 hK2 => ?_
 refine W.block ?_
 refine W.sr fun K3 hK3 => ?_
 refine zE 3 (hK3 _ _ ?_)
 refine W.cond_false false (by kernel_rfl) rfl ?_
 refine W.seq fun K4 hK4 => ?_
 refine W.sr fun K5 hK5 => ?_
 refine zE 3 (hK5 _ _ ?_)
 refine W.cond (decide (at_ < 0)) (by kernel_rfl) (fun h6 => ?_) (fun h6 => ?_)
 ·
  have h6p := of_decide_eq_true h6
  refine W.skip ?_
  refine hK4 _ _ ?_
  refine W.cond (decide (at_ < 0)) (by kernel_rfl) (fun h7 => ?_) (fun h7 => ?_)
  ·
   have h7p := of_decide_eq_true h7
   refine W.sr fun K8 hK8 => ?_
   refine zE 1 (hK8 _ _ ?_)
   refine W.ret (ret_block (ret_seq ?_))
   have e1_ : (vwrite img l at_ x_).1 = 8 := by first | (exfalso; omega) | (simp only [vwrite]; rw [if_pos (by omega)]) | (simp only [vwrite]; rw [if_neg (by omega), if_pos (by assumption)]) | (simp only [vwrite]; rw [if_neg (by omega), if_neg (by assumption)])
   have e2_ : (vwrite img l at_ x_).2 = l := by first | (exfalso; omega) | (simp only [vwrite]; rw [if_pos (by omega)]) | (simp only [vwrite]; rw [if_neg (by omega), if_pos (by assumption)]) | (simp only [vwrite]; rw [if_neg (by omega), if_neg (by assumption)])
   refine ret_of (.int .i64 8) (by kernel_rfl) ⟨_, ⟨by rw [e1_], by rw [e2_]⟩, hs⟩
  ·
   have h7p := of_decide_eq_false h7
   refine W.sr fun K9 hK9 => ?_
   refine zR 2 ?_
   refine zC00 hs (get_spec (at_ := at_) (hv := (hs.entAt 0 rfl viewA_at)) B _) fun w10 hs12 => ?_
   refine zE 3 (hK9 _ _ ?_)
   refine W.cond (decide ((vget img l at_) = x_)) (by kernel_rfl) (fun h13 => ?_) (fun h13 => ?_)
   ·
    have h13p := of_decide_eq_true h13
    refine W.sr fun K14 hK14 => ?_
    refine zE 1 (hK14 _ _ ?_)
    refine W.ret (ret_block (ret_seq ?_))
    have e1_ : (vwrite img l at_ x_).1 = 0 := by first | (exfalso; omega) | (simp only [vwrite]; rw [if_pos (by omega)]) | (simp only [vwrite]; rw [if_neg (by omega), if_pos (by assumption)]) | (simp only [vwrite]; rw [if_neg (by omega), if_neg (by assumption)])
    have e2_ : (vwrite img l at_ x_).2 = l := by first | (exfalso; omega) | (simp only [vwrite]; rw [if_pos (by omega)]) | (simp only [vwrite]; rw [if_neg (by omega), if_pos (by assumption)]) | (simp only [vwrite]; rw [if_neg (by omega), if_neg (by assumption)])
    refine ret_of (.int .i64 0) (by kernel_rfl) ⟨_, ⟨by rw [e1_], by rw [e2_]⟩, hs12⟩
   ·
    have h13p := of_decide_eq_false h13
    refine W.skip ?_
    refine normal_block ?_
    refine hK2 _ _ ?_
    refine W.sr fun K15 hK15 => ?_
    refine zR 3 ?_
    refine zC11 hs12 (put_spec (p := (.pointer (some ⟨b, 0, none⟩))) (img := img) (l := l) (at_ := at_) (x_ := x_) B _) fun w16 hs18 => ?_
    refine zE 1 (hK15 _ _ ?_)
    refine W.ret ?_
    have e1_ : (vwrite img l at_ x_).1 = (vput img l at_ x_).1 := by first | (exfalso; omega) | (simp only [vwrite]; rw [if_pos (by omega)]) | (simp only [vwrite]; rw [if_neg (by omega), if_pos (by assumption)]) | (simp only [vwrite]; rw [if_neg (by omega), if_neg (by assumption)])
    have e2_ : (vwrite img l at_ x_).2 = (vput img l at_ x_).2 := by first | (exfalso; omega) | (simp only [vwrite]; rw [if_pos (by omega)]) | (simp only [vwrite]; rw [if_neg (by omega), if_pos (by assumption)]) | (simp only [vwrite]; rw [if_neg (by omega), if_neg (by assumption)])
    refine ret_of (.int .i64 ((vput img l at_ x_).1)) (by kernel_rfl) ⟨_, ⟨by rw [e1_], by rw [e2_]⟩, hs18⟩
 ·
  have h6p := of_decide_eq_false h6
  refine W.region ?_
  refine zR 2 ?_
  refine zC00 hs (len_spec (hv := (hs.entAt 0 rfl viewA_at)) B _) fun w19 hs21 => ?_
  refine zE 2 (hK4 _ _ ?_)
  refine W.cond (decide (at_ ≥ (img.length : Int))) (by kernel_rfl) (fun h22 => ?_) (fun h22 => ?_)
  ·
   have h22p := of_decide_eq_true h22
   refine W.sr fun K23 hK23 => ?_
   refine zE 1 (hK23 _ _ ?_)
   refine W.ret (ret_block (ret_seq ?_))
   have e1_ : (vwrite img l at_ x_).1 = 8 := by first | (exfalso; omega) | (simp only [vwrite]; rw [if_pos (by omega)]) | (simp only [vwrite]; rw [if_neg (by omega), if_pos (by assumption)]) | (simp only [vwrite]; rw [if_neg (by omega), if_neg (by assumption)])
   have e2_ : (vwrite img l at_ x_).2 = l := by first | (exfalso; omega) | (simp only [vwrite]; rw [if_pos (by omega)]) | (simp only [vwrite]; rw [if_neg (by omega), if_pos (by assumption)]) | (simp only [vwrite]; rw [if_neg (by omega), if_neg (by assumption)])
   refine ret_of (.int .i64 8) (by kernel_rfl) ⟨_, ⟨by rw [e1_], by rw [e2_]⟩, hs21⟩
  ·
   have h22p := of_decide_eq_false h22
   refine W.sr fun K24 hK24 => ?_
   refine zR 2 ?_
   refine zC00 hs21 (get_spec (at_ := at_) (hv := (hs21.entAt 0 rfl viewA_at)) B _) fun w25 hs27 => ?_
   refine zE 3 (hK24 _ _ ?_)
   refine W.cond (decide ((vget img l at_) = x_)) (by kernel_rfl) (fun h28 => ?_) (fun h28 => ?_)
   ·
    have h28p := of_decide_eq_true h28
    refine W.sr fun K29 hK29 => ?_
    refine zE 1 (hK29 _ _ ?_)
    refine W.ret (ret_block (ret_seq ?_))
    have e1_ : (vwrite img l at_ x_).1 = 0 := by first | (exfalso; omega) | (simp only [vwrite]; rw [if_pos (by omega)]) | (simp only [vwrite]; rw [if_neg (by omega), if_pos (by assumption)]) | (simp only [vwrite]; rw [if_neg (by omega), if_neg (by assumption)])
    have e2_ : (vwrite img l at_ x_).2 = l := by first | (exfalso; omega) | (simp only [vwrite]; rw [if_pos (by omega)]) | (simp only [vwrite]; rw [if_neg (by omega), if_pos (by assumption)]) | (simp only [vwrite]; rw [if_neg (by omega), if_neg (by assumption)])
    refine ret_of (.int .i64 0) (by kernel_rfl) ⟨_, ⟨by rw [e1_], by rw [e2_]⟩, hs27⟩
   ·
    have h28p := of_decide_eq_false h28
    refine W.skip ?_
    refine normal_block ?_
    refine hK2 _ _ ?_
    refine W.sr fun K30 hK30 => ?_
    refine zR 3 ?_
    refine zC11 hs27 (put_spec (p := (.pointer (some ⟨b, 0, none⟩))) (img := img) (l := l) (at_ := at_) (x_ := x_) B _) fun w31 hs33 => ?_
    refine zE 1 (hK30 _ _ ?_)
    refine W.ret ?_
    have e1_ : (vwrite img l at_ x_).1 = (vput img l at_ x_).1 := by first | (exfalso; omega) | (simp only [vwrite]; rw [if_pos (by omega)]) | (simp only [vwrite]; rw [if_neg (by omega), if_pos (by assumption)]) | (simp only [vwrite]; rw [if_neg (by omega), if_neg (by assumption)])
    have e2_ : (vwrite img l at_ x_).2 = (vput img l at_ x_).2 := by first | (exfalso; omega) | (simp only [vwrite]; rw [if_pos (by omega)]) | (simp only [vwrite]; rw [if_neg (by omega), if_pos (by assumption)]) | (simp only [vwrite]; rw [if_neg (by omega), if_neg (by assumption)])
    refine ret_of (.int .i64 ((vput img l at_ x_).1)) (by kernel_rfl) ⟨_, ⟨by rw [e1_], by rw [e2_]⟩, hs33⟩

end Go.Proofs.YtmmclabkkigiaaaGreatDoor

set_option maxRecDepth 20000
namespace Go.Proofs.YtmmclabkkigiaaaGreatDoor
open Go Go.RowKit
set_option linter.unusedSimpArgs false
set_option linter.unusedVariables false

theorem ifind_spec {b : Nat} {img : List Int} {l : List (Int × Int)} {gw gi gb n_ : Int} (B : Nat) (w : World) (hv : ViewAt (ptr b) img l w) : Spec Tryz.prog 111 #[(.pointer (some ⟨b, 0, none⟩)), (.agg #[(.int .i64 gw), (.int .i64 gi), (.int .i64 gb)]), (.int .i64 n_)] B w [] (fun v H' => v = .tuple #[.int .i64 (ifind (img.length : Int) gw gi gb n_).1, .int .i64 (ifind (img.length : Int) gw gi gb n_).2] ∧ H' = []) := by
 refine spec_Q Tryz.func111 rfl fun hs => ?_
 refine W.sr fun K1 hK1 => ?_
 refine zN [(.int .i64 gw), (.int .i64 gi), (.int .i64 gb)] 31 hs fun b4 w2 hs3 => ?_
 refine zE 2 (hK1 _ _ ?_)
 refine W.sr fun K5 hK5 => ?_
 refine ops_R (runs_loadAgg (ad := ⟨b4, 0, none⟩) (cs := [(.int .i64 gw), (.int .i64 gi), (.int .i64 gb)]) (by kernel_rfl) (cells_sub (hs3.heapAt 0 rfl) rfl)) ?_
 refine zR 1 ?_
 refine zC00 hs3 (inodeat_spec (gw := gw) (gi := gi) (gb := gb) (n_ := n_) B _) fun w6 hs8 => ?_
 refine zE 1 (hK5 _ _ ?_)
 refine W.seq fun K9 hK9 => ?_
 refine W.block ?_
 refine W.sr fun K10 hK10 => ?_
 refine zE 3 (hK10 _ _ ?_)
 refine W.cond_false false (by kernel_rfl) rfl ?_
 refine W.seq fun K11 hK11 => ?_
 refine W.sr fun K12 hK12 => ?_
 refine zE 3 (hK12 _ _ ?_)
 refine W.cond (decide ((placeOf 8 gw gi gb n_) < 0)) (by kernel_rfl) (fun h13 => ?_) (fun h13 => ?_)
 ·
  have h13p := of_decide_eq_true h13
  refine W.skip ?_
  refine hK11 _ _ ?_
  refine W.cond (decide ((placeOf 8 gw gi gb n_) < 0)) (by kernel_rfl) (fun h14 => ?_) (fun h14 => ?_)
  ·
   have h14p := of_decide_eq_true h14
   refine W.sr fun K15 hK15 => ?_
   refine zE 2 (hK15 _ _ ?_)
   refine W.ret (ret_block (ret_seq ?_))
   have hs16 := St.tk0 hs8
   have e1_ : (ifind (img.length : Int) gw gi gb n_).1 = 0 := by first | (exfalso; omega) | (simp only [ifind]; rw [if_pos (by omega)]) | (simp only [ifind]; rw [if_neg (by omega), if_pos (by omega)]) | (simp only [ifind]; rw [if_neg (by omega), if_neg (by omega)])
   have e2_ : (ifind (img.length : Int) gw gi gb n_).2 = 1 := by first | (exfalso; omega) | (simp only [ifind]; rw [if_pos (by omega)]) | (simp only [ifind]; rw [if_neg (by omega), if_pos (by omega)]) | (simp only [ifind]; rw [if_neg (by omega), if_neg (by omega)])
   refine ret_of (.tuple #[(.int .i64 0), (.int .i64 1)]) (by kernel_rfl) ⟨_, ⟨by rw [e1_, e2_], rfl⟩, hs16⟩
  ·
   have h14p := of_decide_eq_false h14
   refine W.seq fun K17 hK17 => ?_
   have hs18 := hs8.drew
   refine W.regionD [(0, 0), (1, 1), (0, 0), (6, 4), (10, 10), (24, 16)] (fun w_ => St B w [] w_ [blk b4 (.cells [(.int .i64 gw), (.int .i64 gi), (.int .i64 gb)].toArray 31 (0, 0))]) (by kernel_rfl) hs18 ?_
   refine any_val (v := (.pointer (some ⟨b, 0, none⟩))) (v' := (.pointer (some ⟨b, 0, none⟩))) 0 (by kernel_rfl) (fun _ => by kernel_rfl) rfl hs18 ?_
   refine any_R 2 (by kernel_rfl) (fun _ hS_ => runs_loadAgg (ad := ⟨b4, 0, none⟩) (cs := [(.int .i64 gw), (.int .i64 gi), (.int .i64 gb)]) (by kernel_rfl) (cells_sub (hS_.heapAt 0 rfl) rfl)) hs18 ?_
   refine any_step 1 (by kernel_rfl) (by kernel_rfl) ?_
   refine zC00 hs18 (len_spec (hv := (viewAt_old hs18 hv)) B _) fun w19 hs21 => ?_
   refine ops_done (by kernel_rfl) ⟨hs21, ?_⟩
   refine any_step 3 (by kernel_rfl) (by kernel_rfl) ?_
   refine zC00 hs21 (lwords_spec (gw := gw) (gi := gi) (gb := gb) B _) fun w22 hs24 => ?_
   refine ops_done (by kernel_rfl) ⟨hs24, ?_⟩
   refine any_val (v := (.bool (decide ((img.length : Int) < (wordsOf gw gi gb))))) (v' := (.bool (decide ((img.length : Int) < (wordsOf gw gi gb))))) 4 (by kernel_rfl) (fun _ => by kernel_rfl) rfl hs24 ?_
   refine any_val (v := (.bool (decide ((img.length : Int) < (wordsOf gw gi gb))))) (v' := (.bool (decide ((img.length : Int) < (wordsOf gw gi gb))))) 5 (by kernel_rfl) (fun _ => by kernel_rfl) rfl hs24 ?_
   refine any_done (by kernel_rfl) ?_
   refine hK17 _ _ ?_
   refine W.cond (decide ((img.length : Int) < (wordsOf gw gi gb))) (by kernel_rfl) (fun h25 => ?_) (fun h25 => ?_)
   ·
    have h25p := of_decide_eq_true h25
    refine W.sr fun K26 hK26 => ?_
    refine zE 2 (hK26 _ _ ?_)
    refine W.ret (ret_block (ret_seq ?_))
    have hs27 := St.tk0 hs24
    have e1_ : (ifind (img.length : Int) gw gi gb n_).1 = 0 := by first | (exfalso; omega) | (simp only [ifind]; rw [if_pos (by omega)]) | (simp only [ifind]; rw [if_neg (by omega), if_pos (by omega)]) | (simp only [ifind]; rw [if_neg (by omega), if_neg (by omega)])
    have e2_ : (ifind (img.length : Int) gw gi gb n_).2 = 8 := by first | (exfalso; omega) | (simp only [ifind]; rw [if_pos (by omega)]) | (simp only [ifind]; rw [if_neg (by omega), if_pos (by omega)]) | (simp only [ifind]; rw [if_neg (by omega), if_neg (by omega)])
    refine ret_of (.tuple #[(.int .i64 0), (.int .i64 8)]) (by kernel_rfl) ⟨_, ⟨by rw [e1_, e2_], rfl⟩, hs27⟩
   ·
    have h25p := of_decide_eq_false h25
    refine W.skip ?_
    refine normal_block ?_
    refine hK9 _ _ ?_
    refine W.sr fun K28 hK28 => ?_
    refine zE 3 (hK28 _ _ ?_)
    refine W.ret ?_
    have hs29 := St.tk0 hs24
    have e1_ : (ifind (img.length : Int) gw gi gb n_).1 = (placeOf 8 gw gi gb n_) := by first | (exfalso; omega) | (simp only [ifind]; rw [if_pos (by omega)]) | (simp only [ifind]; rw [if_neg (by omega), if_pos (by omega)]) | (simp only [ifind]; rw [if_neg (by omega), if_neg (by omega)])
    have e2_ : (ifind (img.length : Int) gw gi gb n_).2 = 0 := by first | (exfalso; omega) | (simp only [ifind]; rw [if_pos (by omega)]) | (simp only [ifind]; rw [if_neg (by omega), if_pos (by omega)]) | (simp only [ifind]; rw [if_neg (by omega), if_neg (by omega)])
    refine ret_of (.tuple #[(.int .i64 (placeOf 8 gw gi gb n_)), (.int .i64 0)]) (by kernel_rfl) ⟨_, ⟨by rw [e1_, e2_], rfl⟩, hs29⟩
 ·
  have h13p := of_decide_eq_false h13
  refine W.region ?_
  refine zE 3 (hK11 _ _ ?_)
  refine W.cond (decide (n_ = 0)) (by kernel_rfl) (fun h30 => ?_) (fun h30 => ?_)
  ·
   have h30p := of_decide_eq_true h30
   refine W.sr fun K31 hK31 => ?_
   refine zE 2 (hK31 _ _ ?_)
   refine W.ret (ret_block (ret_seq ?_))
   have hs32 := St.tk0 hs8
   have e1_ : (ifind (img.length : Int) gw gi gb n_).1 = 0 := by first | (exfalso; omega) | (simp only [ifind]; rw [if_pos (by omega)]) | (simp only [ifind]; rw [if_neg (by omega), if_pos (by omega)]) | (simp only [ifind]; rw [if_neg (by omega), if_neg (by omega)])
   have e2_ : (ifind (img.length : Int) gw gi gb n_).2 = 1 := by first | (exfalso; omega) | (simp only [ifind]; rw [if_pos (by omega)]) | (simp only [ifind]; rw [if_neg (by omega), if_pos (by omega)]) | (simp only [ifind]; rw [if_neg (by omega), if_neg (by omega)])
   refine ret_of (.tuple #[(.int .i64 0), (.int .i64 1)]) (by kernel_rfl) ⟨_, ⟨by rw [e1_, e2_], rfl⟩, hs32⟩
  ·
   have h30p := of_decide_eq_false h30
   refine W.seq fun K33 hK33 => ?_
   have hs34 := hs8.drew
   refine W.regionD [(0, 0), (1, 1), (0, 0), (6, 4), (10, 10), (24, 16)] (fun w_ => St B w [] w_ [blk b4 (.cells [(.int .i64 gw), (.int .i64 gi), (.int .i64 gb)].toArray 31 (0, 0))]) (by kernel_rfl) hs34 ?_
   refine any_val (v := (.pointer (some ⟨b, 0, none⟩))) (v' := (.pointer (some ⟨b, 0, none⟩))) 0 (by kernel_rfl) (fun _ => by kernel_rfl) rfl hs34 ?_
   refine any_R 2 (by kernel_rfl) (fun _ hS_ => runs_loadAgg (ad := ⟨b4, 0, none⟩) (cs := [(.int .i64 gw), (.int .i64 gi), (.int .i64 gb)]) (by kernel_rfl) (cells_sub (hS_.heapAt 0 rfl) rfl)) hs34 ?_
   refine any_step 1 (by kernel_rfl) (by kernel_rfl) ?_
   refine zC00 hs34 (len_spec (hv := (viewAt_old hs34 hv)) B _) fun w35 hs37 => ?_
   refine ops_done (by kernel_rfl) ⟨hs37, ?_⟩
   refine any_step 3 (by kernel_rfl) (by kernel_rfl) ?_
   refine zC00 hs37 (lwords_spec (gw := gw) (gi := gi) (gb := gb) B _) fun w38 hs40 => ?_
   refine ops_done (by kernel_rfl) ⟨hs40, ?_⟩
   refine any_val (v := (.bool (decide ((img.length : Int) < (wordsOf gw gi gb))))) (v' := (.bool (decide ((img.length : Int) < (wordsOf gw gi gb))))) 4 (by kernel_rfl) (fun _ => by kernel_rfl) rfl hs40 ?_
   refine any_val (v := (.bool (decide ((img.length : Int) < (wordsOf gw gi gb))))) (v' := (.bool (decide ((img.length : Int) < (wordsOf gw gi gb))))) 5 (by kernel_rfl) (fun _ => by kernel_rfl) rfl hs40 ?_
   refine any_done (by kernel_rfl) ?_
   refine hK33 _ _ ?_
   refine W.cond (decide ((img.length : Int) < (wordsOf gw gi gb))) (by kernel_rfl) (fun h41 => ?_) (fun h41 => ?_)
   ·
    have h41p := of_decide_eq_true h41
    refine W.sr fun K42 hK42 => ?_
    refine zE 2 (hK42 _ _ ?_)
    refine W.ret (ret_block (ret_seq ?_))
    have hs43 := St.tk0 hs40
    have e1_ : (ifind (img.length : Int) gw gi gb n_).1 = 0 := by first | (exfalso; omega) | (simp only [ifind]; rw [if_pos (by omega)]) | (simp only [ifind]; rw [if_neg (by omega), if_pos (by omega)]) | (simp only [ifind]; rw [if_neg (by omega), if_neg (by omega)])
    have e2_ : (ifind (img.length : Int) gw gi gb n_).2 = 8 := by first | (exfalso; omega) | (simp only [ifind]; rw [if_pos (by omega)]) | (simp only [ifind]; rw [if_neg (by omega), if_pos (by omega)]) | (simp only [ifind]; rw [if_neg (by omega), if_neg (by omega)])
    refine ret_of (.tuple #[(.int .i64 0), (.int .i64 8)]) (by kernel_rfl) ⟨_, ⟨by rw [e1_, e2_], rfl⟩, hs43⟩
   ·
    have h41p := of_decide_eq_false h41
    refine W.skip ?_
    refine normal_block ?_
    refine hK9 _ _ ?_
    refine W.sr fun K44 hK44 => ?_
    refine zE 3 (hK44 _ _ ?_)
    refine W.ret ?_
    have hs45 := St.tk0 hs40
    have e1_ : (ifind (img.length : Int) gw gi gb n_).1 = (placeOf 8 gw gi gb n_) := by first | (exfalso; omega) | (simp only [ifind]; rw [if_pos (by omega)]) | (simp only [ifind]; rw [if_neg (by omega), if_pos (by omega)]) | (simp only [ifind]; rw [if_neg (by omega), if_neg (by omega)])
    have e2_ : (ifind (img.length : Int) gw gi gb n_).2 = 0 := by first | (exfalso; omega) | (simp only [ifind]; rw [if_pos (by omega)]) | (simp only [ifind]; rw [if_neg (by omega), if_pos (by omega)]) | (simp only [ifind]; rw [if_neg (by omega), if_neg (by omega)])
    refine ret_of (.tuple #[(.int .i64 (placeOf 8 gw gi gb n_)), (.int .i64 0)]) (by kernel_rfl) ⟨_, ⟨by rw [e1_, e2_], rfl⟩, hs45⟩


theorem inode_spec {x_ : Nd} (B : Nat) (w : World) : Spec Tryz.prog 112 #[(.agg #[(.int .u64 x_.k), (.int .u64 x_.l), (.int .u64 x_.o), (.int .u64 x_.s), (.int .u64 x_.a), (.int .u64 x_.b), (.int .u64 x_.c), (.int .u64 x_.d), (.int .u64 x_.e), (.int .u64 x_.m)])] B w [] (fun v H' => v = (.agg #[(.int .u64 x_.k), (.int .u64 x_.l), (.int .u64 x_.o), (.int .u64 x_.s), (.int .u64 x_.a), (.int .u64 x_.b), (.int .u64 x_.c), (.int .u64 x_.d), (.int .u64 x_.e), (.int .u64 x_.m)]) ∧ H' = []) := by
 refine spec_Q Tryz.func112 rfl fun hs => ?_
 refine W.sr fun K1 hK1 => ?_
 refine zN [(.int .u64 x_.k), (.int .u64 x_.l), (.int .u64 x_.o), (.int .u64 x_.s), (.int .u64 x_.a), (.int .u64 x_.b), (.int .u64 x_.c), (.int .u64 x_.d), (.int .u64 x_.e), (.int .u64 x_.m)] 188 hs fun b4 w2 hs3 => ?_
 refine zN [(.int .u64 0), (.int .u64 0), (.int .u64 0), (.int .u64 0), (.int .u64 0), (.int .u64 0), (.int .u64 0), (.int .u64 0), (.int .u64 0), (.int .u64 0)] 153 hs3 fun b7 w5 hs6 => ?_
 refine zD (hK1 _ _ ?_)
 refine W.seq fun K8 hK8 => ?_
 have hs9 := hs6.drew
 have hs10 := St.f1 hs9
 have hs11 := St.tk1 hs10
 refine W.regionD [(0, 0), (1, 1), (0, 0), (4, 4), (0, 0), (16, 16), (0, 0), (64, 64), (0, 0), (256, 256), (512, 512), (0, 0), (2048, 2048), (0, 0), (8192, 8192), (21674, 21674), (65535, 32768)] (fun w_ => St B w [] w_ [blk b4 (.cells [(.int .u64 x_.k), (.int .u64 x_.l), (.int .u64 x_.o), (.int .u64 x_.s), (.int .u64 x_.a), (.int .u64 x_.b), (.int .u64 x_.c), (.int .u64 x_.d), (.int .u64 x_.e), (.int .u64 x_.m)].toArray 188 (0, 0))]) (by kernel_rfl) hs11 ?_
 refine any_val (v := (.pointer (some ⟨b4, 0, none⟩))) (v' := (.pointer (some ⟨b4, 0, none⟩))) 0 (by kernel_rfl) (fun _ => by kernel_rfl) rfl hs11 ?_
 refine any_R 1 (by kernel_rfl) (fun _ hS_ => runs_load (ad := ⟨b4, 0, none⟩) (v := (.int .u64 x_.k)) (by kernel_rfl) (hS_.cellAt 0 rfl rfl)) hs11 ?_
 refine any_val (v := (.pointer (some ⟨b4, 1, none⟩))) (v' := (.pointer (some ⟨b4, 1, none⟩))) 2 (by kernel_rfl) (fun _ => by kernel_rfl) rfl hs11 ?_
 refine any_R 3 (by kernel_rfl) (fun _ hS_ => runs_load (ad := ⟨b4, 1, none⟩) (v := (.int .u64 x_.l)) (by kernel_rfl) (hS_.cellAt 0 rfl rfl)) hs11 ?_
 refine any_val (v := (.pointer (some ⟨b4, 2, none⟩))) (v' := (.pointer (some ⟨b4, 2, none⟩))) 4 (by kernel_rfl) (fun _ => by kernel_rfl) rfl hs11 ?_
 refine any_R 5 (by kernel_rfl) (fun _ hS_ => runs_load (ad := ⟨b4, 2, none⟩) (v := (.int .u64 x_.o)) (by kernel_rfl) (hS_.cellAt 0 rfl rfl)) hs11 ?_
 refine any_val (v := (.pointer (some ⟨b4, 3, none⟩))) (v' := (.pointer (some ⟨b4, 3, none⟩))) 6 (by kernel_rfl) (fun _ => by kernel_rfl) rfl hs11 ?_
 refine any_R 7 (by kernel_rfl) (fun _ hS_ => runs_load (ad := ⟨b4, 3, none⟩) (v := (.int .u64 x_.s)) (by kernel_rfl) (hS_.cellAt 0 rfl rfl)) hs11 ?_
 refine any_val (v := (.slice (some ⟨b4, 4, none⟩) 4 6)) (v' := (.slice (some ⟨b4, 4, none⟩) 4 6)) 8 (by kernel_rfl) (fun _ => by kernel_rfl) rfl hs11 ?_
 refine any_val (v := (.pointer (some ⟨b4, 4, none⟩))) (v' := (.pointer (some ⟨b4, 4, none⟩))) 9 (by kernel_rfl) (fun _ => by kernel_rfl) rfl hs11 ?_
 refine any_R 10 (by kernel_rfl) (fun _ hS_ => runs_loadAgg (ad := ⟨b4, 4, none⟩) (cs := [(.int .u64 x_.a), (.int .u64 x_.b), (.int .u64 x_.c), (.int .u64 x_.d)]) (by kernel_rfl) (cells_sub (hS_.heapAt 0 rfl) rfl)) hs11 ?_
 refine any_val (v := (.pointer (some ⟨b4, 8, none⟩))) (v' := (.pointer (some ⟨b4, 8, none⟩))) 11 (by kernel_rfl) (fun _ => by kernel_rfl) rfl hs11 ?_
 refine any_R 12 (by kernel_rfl) (fun _ hS_ => runs_load (ad := ⟨b4, 8, none⟩) (v := (.int .u64 x_.e)) (by kernel_rfl) (hS_.cellAt 0 rfl rfl)) hs11 ?_
 refine any_val (v := (.pointer (some ⟨b4, 9, none⟩))) (v' := (.pointer (some ⟨b4, 9, none⟩))) 13 (by kernel_rfl) (fun _ => by kernel_rfl) rfl hs11 ?_
 refine any_R 14 (by kernel_rfl) (fun _ hS_ => runs_load (ad := ⟨b4, 9, none⟩) (v := (.int .u64 x_.m)) (by kernel_rfl) (hS_.cellAt 0 rfl rfl)) hs11 ?_
 refine any_val (v := (.agg #[(.int .u64 x_.k), (.int .u64 x_.l), (.int .u64 x_.o), (.int .u64 x_.s), (.int .u64 x_.a), (.int .u64 x_.b), (.int .u64 x_.c), (.int .u64 x_.d), (.int .u64 x_.e), (.int .u64 x_.m)])) (v' := (.agg #[(.int .u64 x_.k), (.int .u64 x_.l), (.int .u64 x_.o), (.int .u64 x_.s), (.int .u64 x_.a), (.int .u64 x_.b), (.int .u64 x_.c), (.int .u64 x_.d), (.int .u64 x_.e), (.int .u64 x_.m)])) 15 (by kernel_rfl) (fun _ => by kernel_rfl) rfl hs11 ?_
 refine any_step 16 (by kernel_rfl) (by kernel_rfl) ?_
 refine ops_store (off := 0) (cs := [(.int .u64 0), (.int .u64 0), (.int .u64 0), (.int .u64 0), (.int .u64 0), (.int .u64 0), (.int .u64 0), (.int .u64 0), (.int .u64 0), (.int .u64 0)]) (vs := [(.int .u64 x_.k), (.int .u64 x_.l), (.int .u64 x_.o), (.int .u64 x_.s), (.int .u64 x_.a), (.int .u64 x_.b), (.int .u64 x_.c), (.int .u64 x_.d), (.int .u64 x_.e), (.int .u64 x_.m)]) hs9 (by kernel_rfl) (by simp) rfl (fun w12 hs13 => ?_)
 have hs14 : St B w [] w12 [blk b7 (.cells [(.int .u64 x_.k), (.int .u64 x_.l), (.int .u64 x_.o), (.int .u64 x_.s), (.int .u64 x_.a), (.int .u64 x_.b), (.int .u64 x_.c), (.int .u64 x_.d), (.int .u64 x_.e), (.int .u64 x_.m)].toArray 153 (0, 0)), blk b4 (.cells [(.int .u64 x_.k), (.int .u64 x_.l), (.int .u64 x_.o), (.int .u64 x_.s), (.int .u64 x_.a), (.int .u64 x_.b), (.int .u64 x_.c), (.int .u64 x_.d), (.int .u64 x_.e), (.int .u64 x_.m)].toArray 188 (0, 0))] := hs13
 have hs15 := St.f1 hs14
 have hs16 := St.tk1 hs15
 refine ops_done (by kernel_rfl) ⟨hs16, ?_⟩
 refine any_done (by kernel_rfl) ?_
 refine hK8 _ _ ?_
 refine W.ret ?_
 have hs17 := St.tk0 hs14
 refine ret_of (.agg #[(.int .u64 x_.k), (.int .u64 x_.l), (.int .u64 x_.o), (.int .u64 x_.s), (.int .u64 x_.a), (.int .u64 x_.b), (.int .u64 x_.c), (.int .u64 x_.d), (.int .u64 x_.e), (.int .u64 x_.m)]) (results_cell (ad := ⟨b7, 0, none⟩) (cs := [(.int .u64 x_.k), (.int .u64 x_.l), (.int .u64 x_.o), (.int .u64 x_.s), (.int .u64 x_.a), (.int .u64 x_.b), (.int .u64 x_.c), (.int .u64 x_.d), (.int .u64 x_.e), (.int .u64 x_.m)]) rfl (by kernel_rfl) (by kernel_rfl) (cells_sub (hs14.heapAt 0 rfl) rfl)) ⟨_, ⟨rfl, rfl⟩, hs17⟩

end Go.Proofs.YtmmclabkkigiaaaGreatDoor

set_option maxRecDepth 20000
set_option maxHeartbeats 2000000
namespace Go.Proofs.YtmmclabkkigiaaaGreatDoor
open Go Go.RowKit
set_option linter.unusedSimpArgs false
set_option linter.unusedVariables false

theorem ig_spec {b : Nat} {img : List Int} {l : List (Int × Int)} {gw gi gb n_ : Int} (B : Nat) (w : World) (hv : ViewAt (ptr b) img l w) : Spec Tryz.prog 81 #[(.pointer (some ⟨b, 0, none⟩)), (.agg #[(.int .i64 gw), (.int .i64 gi), (.int .i64 gb)]), (.int .i64 n_)] B w [] (fun v H' => v = (.tuple #[(.agg #[(.int .u64 ((igetM img l gw gi gb n_).1.k)), (.int .u64 ((igetM img l gw gi gb n_).1.l)), (.int .u64 ((igetM img l gw gi gb n_).1.o)), (.int .u64 ((igetM img l gw gi gb n_).1.s)), (.int .u64 ((igetM img l gw gi gb n_).1.a)), (.int .u64 ((igetM img l gw gi gb n_).1.b)), (.int .u64 ((igetM img l gw gi gb n_).1.c)), (.int .u64 ((igetM img l gw gi gb n_).1.d)), (.int .u64 ((igetM img l gw gi gb n_).1.e)), (.int .u64 ((igetM img l gw gi gb n_).1.m))]), (.int .i64 ((igetM img l gw gi gb n_).2))]) ∧ H' = []) := by
 refine spec_Q Tryz.func81 rfl fun hs => ?_
 have hrg := ifind_range (img.length : Int) gw gi gb n_
 refine W.sr fun K1 hK1 => ?_
 refine zN [(.int .i64 gw), (.int .i64 gi), (.int .i64 gb)] 31 hs fun b4 w2 hs3 => ?_
 refine zN [(.int .u64 0), (.int .u64 0), (.int .u64 0), (.int .u64 0), (.int .u64 0), (.int .u64 0), (.int .u64 0), (.int .u64 0), (.int .u64 0), (.int .u64 0)] 153 hs3 fun b7 w5 hs6 => ?_
 refine zE 1 (hK1 _ _ ?_)
 refine W.sr fun K8 hK8 => ?_
 refine zR 1 ?_
 refine ops_R (runs_loadAgg (ad := ⟨b4, 0, none⟩) (cs := [(.int .i64 gw), (.int .i64 gi), (.int .i64 gb)]) (by kernel_rfl) (cells_sub (hs6.heapAt 1 rfl) rfl)) ?_
 refine zR 1 ?_
 refine zC00 hs6 (ifind_spec (gw := gw) (gi := gi) (gb := gb) (n_ := n_) (hv := (viewAt_old hs6 hv)) B _) fun w9 hs11 => ?_
 refine zE 5 (hK8 _ _ ?_)
 refine W.seq fun K12 hK12 => ?_
 refine W.sr fun K13 hK13 => ?_
 refine zE 2 (hK13 _ _ ?_)
 refine W.cond (!decide ((ifind (img.length : Int) gw gi gb n_).2 = 0)) (by kernel_rfl) (fun h14 => ?_) (fun h14 => ?_)
 ·
  have h14p : ¬ ((ifind (img.length : Int) gw gi gb n_).2 = 0) := of_decide_eq_false (bnot_true h14)
  refine W.sr fun K15 hK15 => ?_
  refine zR 2 ?_
  refine ops_store (off := 0) (cs := [(.int .u64 0), (.int .u64 0), (.int .u64 0), (.int .u64 0), (.int .u64 0), (.int .u64 0), (.int .u64 0), (.int .u64 0), (.int .u64 0), (.int .u64 0)]) (vs := [(.int .u64 0), (.int .u64 0), (.int .u64 0), (.int .u64 0), (.int .u64 0), (.int .u64 0), (.int .u64 0), (.int .u64 0), (.int .u64 0), (.int .u64 0)]) hs11 (by kernel_rfl) (by simp) rfl (fun w16 hs17 => ?_)
  have hs18 : St B w [] w16 [blk b7 (.cells [(.int .u64 0), (.int .u64 0), (.int .u64 0), (.int .u64 0), (.int .u64 0), (.int .u64 0), (.int .u64 0), (.int .u64 0), (.int .u64 0), (.int .u64 0)].toArray 153 (0, 0)), blk b4 (.cells [(.int .i64 gw), (.int .i64 gi), (.int .i64 gb)].toArray 31 (0, 0))] := hs17
  refine zE 1 (hK15 _ _ ?_)
  refine W.ret (ret_seq ?_)
  have e_ : igetM img l gw gi gb n_ = (Nd.zero, (ifind (img.length : Int) gw gi gb n_).2) := by first | (exfalso; omega) | (simp only [igetM]; exact if_neg (by assumption))
  have hs19 := St.tk0 hs18
  refine ret_of (.tuple #[(.agg #[(.int .u64 0), (.int .u64 0), (.int .u64 0), (.int .u64 0), (.int .u64 0), (.int .u64 0), (.int .u64 0), (.int .u64 0), (.int .u64 0), (.int .u64 0)]), (.int .i64 ((ifind (img.length : Int) gw gi gb n_).2))]) (results_cell2 (ad := ⟨b7, 0, none⟩) (cs := [(.int .u64 0), (.int .u64 0), (.int .u64 0), (.int .u64 0), (.int .u64 0), (.int .u64 0), (.int .u64 0), (.int .u64 0), (.int .u64 0), (.int .u64 0)]) rfl (by kernel_rfl) (by kernel_rfl) (by kernel_rfl) (cells_sub (hs18.heapAt 0 rfl) rfl)) ⟨_, ⟨by rw [e_]; try rfl, rfl⟩, hs19⟩
 ·
  have h14p : (ifind (img.length : Int) gw gi gb n_).2 = 0 := of_decide_eq_true (bnot_false h14)
  refine W.skip ?_
  refine hK12 _ _ ?_
  refine W.sr fun K20 hK20 => ?_
  refine zN [(.int .u64 0), (.int .u64 0), (.int .u64 0), (.int .u64 0), (.int .u64 0), (.int .u64 0), (.int .u64 0), (.int .u64 0), (.int .u64 0), (.int .u64 0)] 188 hs11 fun b23 w21 hs22 => ?_
  refine zD (hK20 _ _ ?_)
  refine W.seq fun K24 hK24 => ?_
  refine W.sr fun K25 hK25 => ?_
  refine zE 1 (hK25 _ _ ?_)
  refine W.block ?_
  refine W.loop_start ?_
  refine loopAt_round ?_
  refine W.sr fun K26 hK26 => ?_
  refine zE 1 (hK26 _ _ ?_)
  refine W.seq fun K27 hK27 => ?_
  refine W.cond_true true (by kernel_rfl) rfl ?_
  refine W.skip ?_
  refine hK27 _ _ ?_
  refine W.seq fun K28 hK28 => ?_
  refine W.block ?_
  refine W.sr fun K29 hK29 => ?_
  refine zE 2 (hK29 _ _ ?_)
  refine W.region ?_
  refine zR 4 ?_
  refine zI ((ifind (img.length : Int) gw gi gb n_).1 + 0) (wrap_i64 (by omega) (by omega)) ?_
  refine zC00 hs22 (get_spec (at_ := ((ifind (img.length : Int) gw gi gb n_).1 + 0)) (hv := (viewAt_old hs22 hv)) B _) fun w30 hs32 => ?_
  refine zR 1 ?_
  refine ops_store (off := 0) (cs := [(.int .u64 0), (.int .u64 0), (.int .u64 0), (.int .u64 0), (.int .u64 0), (.int .u64 0), (.int .u64 0), (.int .u64 0), (.int .u64 0), (.int .u64 0)]) (vs := [(.int .u64 (vget img l ((ifind (img.length : Int) gw gi gb n_).1 + 0)))]) hs32 (by kernel_rfl) (by simp) rfl (fun w33 hs34 => ?_)
  have hs35 : St B w [] w33 [blk b23 (.cells [(.int .u64 (vget img l ((ifind (img.length : Int) gw gi gb n_).1 + 0))), (.int .u64 0), (.int .u64 0), (.int .u64 0), (.int .u64 0), (.int .u64 0), (.int .u64 0), (.int .u64 0), (.int .u64 0), (.int .u64 0)].toArray 188 (0, 0)), blk b7 (.cells [(.int .u64 0), (.int .u64 0), (.int .u64 0), (.int .u64 0), (.int .u64 0), (.int .u64 0), (.int .u64 0), (.int .u64 0), (.int .u64 0), (.int .u64 0)].toArray 153 (0, 0)), blk b4 (.cells [(.int .i64 gw), (.int .i64 gi), (.int .i64 gb)].toArray 31 (0, 0))] := hs34
  refine zD ?_
  refine normal_block ?_
  refine hK28 _ _ ?_
  refine W.region ?_
  refine zE 2 ?_
  refine loopAt_next ?_
  refine loopAt_round ?_
  refine W.sr fun K36 hK36 => ?_
  refine zE 1 (hK36 _ _ ?_)
  refine W.seq fun K37 hK37 => ?_
  refine W.cond_true true (by kernel_rfl) rfl ?_
  refine W.skip ?_
  refine hK37 _ _ ?_
  refine W.seq fun K38 hK38 => ?_
  refine W.block ?_
  refine W.sr fun K39 hK39 => ?_
  refine zE 2 (hK39 _ _ ?_)
  refine W.region ?_
  refine zR 4 ?_
  refine zI ((ifind (img.length : Int) gw gi gb n_).1 + 1) (wrap_i64 (by omega) (by omega)) ?_
  refine zC00 hs35 (get_spec (at_ := ((ifind (img.length : Int) gw gi gb n_).1 + 1)) (hv := (viewAt_old hs35 hv)) B _) fun w40 hs42 => ?_
  refine zR 1 ?_
  refine ops_store (off := 1) (cs := [(.int .u64 (vget img l ((ifind (img.length : Int) gw gi gb n_).1 + 0))), (.int .u64 0), (.int .u64 0), (.int .u64 0), (.int .u64 0), (.int .u64 0), (.int .u64 0), (.int .u64 0), (.int .u64 0), (.int .u64 0)]) (vs := [(.int .u64 (vget img l ((ifind (img.length : Int) gw gi gb n_).1 + 1)))]) hs42 (by kernel_rfl) (by simp) rfl (fun w43 hs44 => ?_)
  have hs45 : St B w [] w43 [blk b23 (.cells [(.int .u64 (vget img l ((ifind (img.length : Int) gw gi gb n_).1 + 0))), (.int .u64 (vget img l ((ifind (img.length : Int) gw gi gb n_).1 + 1))), (.int .u64 0), (.int .u64 0), (.int .u64 0), (.int .u64 0), (.int .u64 0), (.int .u64 0), (.int .u64 0), (.int .u64 0)].toArray 188 (0, 0)), blk b7 (.cells [(.int .u64 0), (.int .u64 0), (.int .u64 0), (.int .u64 0), (.int .u64 0), (.int .u64 0), (.int .u64 0), (.int .u64 0), (.int .u64 0), (.int .u64 0)].toArray 153 (0, 0)), blk b4 (.cells [(.int .i64 gw), (.int .i64 gi), (.int .i64 gb)].toArray 31 (0, 0))] := hs44
  refine zD ?_
  refine normal_block ?_
  refine hK38 _ _ ?_
  refine W.region ?_
  refine zE 2 ?_
  refine loopAt_next ?_
  refine loopAt_round ?_
  refine W.sr fun K46 hK46 => ?_
  refine zE 1 (hK46 _ _ ?_)
  refine W.seq fun K47 hK47 => ?_
  refine W.cond_true true (by kernel_rfl) rfl ?_
  refine W.skip ?_
  refine hK47 _ _ ?_
  refine W.seq fun K48 hK48 => ?_
  refine W.block ?_
  refine W.sr fun K49 hK49 => ?_
  refine zE 2 (hK49 _ _ ?_)
  refine W.region ?_
  refine zR 4 ?_
  refine zI ((ifind (img.length : Int) gw gi gb n_).1 + 2) (wrap_i64 (by omega) (by omega)) ?_
  refine zC00 hs45 (get_spec (at_ := ((ifind (img.length : Int) gw gi gb n_).1 + 2)) (hv := (viewAt_old hs45 hv)) B _) fun w50 hs52 => ?_
  refine zR 1 ?_
  refine ops_store (off := 2) (cs := [(.int .u64 (vget img l ((ifind (img.length : Int) gw gi gb n_).1 + 0))), (.int .u64 (vget img l ((ifind (img.length : Int) gw gi gb n_).1 + 1))), (.int .u64 0), (.int .u64 0), (.int .u64 0), (.int .u64 0), (.int .u64 0), (.int .u64 0), (.int .u64 0), (.int .u64 0)]) (vs := [(.int .u64 (vget img l ((ifind (img.length : Int) gw gi gb n_).1 + 2)))]) hs52 (by kernel_rfl) (by simp) rfl (fun w53 hs54 => ?_)
  have hs55 : St B w [] w53 [blk b23 (.cells [(.int .u64 (vget img l ((ifind (img.length : Int) gw gi gb n_).1 + 0))), (.int .u64 (vget img l ((ifind (img.length : Int) gw gi gb n_).1 + 1))), (.int .u64 (vget img l ((ifind (img.length : Int) gw gi gb n_).1 + 2))), (.int .u64 0), (.int .u64 0), (.int .u64 0), (.int .u64 0), (.int .u64 0), (.int .u64 0), (.int .u64 0)].toArray 188 (0, 0)), blk b7 (.cells [(.int .u64 0), (.int .u64 0), (.int .u64 0), (.int .u64 0), (.int .u64 0), (.int .u64 0), (.int .u64 0), (.int .u64 0), (.int .u64 0), (.int .u64 0)].toArray 153 (0, 0)), blk b4 (.cells [(.int .i64 gw), (.int .i64 gi), (.int .i64 gb)].toArray 31 (0, 0))] := hs54
  refine zD ?_
  refine normal_block ?_
  refine hK48 _ _ ?_
  refine W.region ?_
  refine zE 2 ?_
  refine loopAt_next ?_
  refine loopAt_round ?_
  refine W.sr fun K56 hK56 => ?_
  refine zE 1 (hK56 _ _ ?_)
  refine W.seq fun K57 hK57 => ?_
  refine W.cond_true true (by kernel_rfl) rfl ?_
  refine W.skip ?_
  refine hK57 _ _ ?_
  refine W.seq fun K58 hK58 => ?_
  refine W.block ?_
  refine W.sr fun K59 hK59 => ?_
  refine zE 2 (hK59 _ _ ?_)
  refine W.region ?_
  refine zR 4 ?_
  refine zI ((ifind (img.length : Int) gw gi gb n_).1 + 3) (wrap_i64 (by omega) (by omega)) ?_
  refine zC00 hs55 (get_spec (at_ := ((ifind (img.length : Int) gw gi gb n_).1 + 3)) (hv := (viewAt_old hs55 hv)) B _) fun w60 hs62 => ?_
  refine zR 1 ?_
  refine ops_store (off := 3) (cs := [(.int .u64 (vget img l ((ifind (img.length : Int) gw gi gb n_).1 + 0))), (.int .u64 (vget img l ((ifind (img.length : Int) gw gi gb n_).1 + 1))), (.int .u64 (vget img l ((ifind (img.length : Int) gw gi gb n_).1 + 2))), (.int .u64 0), (.int .u64 0), (.int .u64 0), (.int .u64 0), (.int .u64 0), (.int .u64 0), (.int .u64 0)]) (vs := [(.int .u64 (vget img l ((ifind (img.length : Int) gw gi gb n_).1 + 3)))]) hs62 (by kernel_rfl) (by simp) rfl (fun w63 hs64 => ?_)
  have hs65 : St B w [] w63 [blk b23 (.cells [(.int .u64 (vget img l ((ifind (img.length : Int) gw gi gb n_).1 + 0))), (.int .u64 (vget img l ((ifind (img.length : Int) gw gi gb n_).1 + 1))), (.int .u64 (vget img l ((ifind (img.length : Int) gw gi gb n_).1 + 2))), (.int .u64 (vget img l ((ifind (img.length : Int) gw gi gb n_).1 + 3))), (.int .u64 0), (.int .u64 0), (.int .u64 0), (.int .u64 0), (.int .u64 0), (.int .u64 0)].toArray 188 (0, 0)), blk b7 (.cells [(.int .u64 0), (.int .u64 0), (.int .u64 0), (.int .u64 0), (.int .u64 0), (.int .u64 0), (.int .u64 0), (.int .u64 0), (.int .u64 0), (.int .u64 0)].toArray 153 (0, 0)), blk b4 (.cells [(.int .i64 gw), (.int .i64 gi), (.int .i64 gb)].toArray 31 (0, 0))] := hs64
  refine zD ?_
  refine normal_block ?_
  refine hK58 _ _ ?_
  refine W.region ?_
  refine zE 2 ?_
  refine loopAt_next ?_
  refine loopAt_round ?_
  refine W.sr fun K66 hK66 => ?_
  refine zE 1 (hK66 _ _ ?_)
  refine W.seq fun K67 hK67 => ?_
  refine W.cond_true true (by kernel_rfl) rfl ?_
  refine W.skip ?_
  refine hK67 _ _ ?_
  refine W.seq fun K68 hK68 => ?_
  refine W.block ?_
  refine W.sr fun K69 hK69 => ?_
  refine zE 2 (hK69 _ _ ?_)
  refine W.region ?_
  refine zR 4 ?_
  refine zI ((ifind (img.length : Int) gw gi gb n_).1 + 4) (wrap_i64 (by omega) (by omega)) ?_
  refine zC00 hs65 (get_spec (at_ := ((ifind (img.length : Int) gw gi gb n_).1 + 4)) (hv := (viewAt_old hs65 hv)) B _) fun w70 hs72 => ?_
  refine zR 1 ?_
  refine ops_store (off := 4) (cs := [(.int .u64 (vget img l ((ifind (img.length : Int) gw gi gb n_).1 + 0))), (.int .u64 (vget img l ((ifind (img.length : Int) gw gi gb n_).1 + 1))), (.int .u64 (vget img l ((ifind (img.length : Int) gw gi gb n_).1 + 2))), (.int .u64 (vget img l ((ifind (img.length : Int) gw gi gb n_).1 + 3))), (.int .u64 0), (.int .u64 0), (.int .u64 0), (.int .u64 0), (.int .u64 0), (.int .u64 0)]) (vs := [(.int .u64 (vget img l ((ifind (img.length : Int) gw gi gb n_).1 + 4)))]) hs72 (by kernel_rfl) (by simp) rfl (fun w73 hs74 => ?_)
  have hs75 : St B w [] w73 [blk b23 (.cells [(.int .u64 (vget img l ((ifind (img.length : Int) gw gi gb n_).1 + 0))), (.int .u64 (vget img l ((ifind (img.length : Int) gw gi gb n_).1 + 1))), (.int .u64 (vget img l ((ifind (img.length : Int) gw gi gb n_).1 + 2))), (.int .u64 (vget img l ((ifind (img.length : Int) gw gi gb n_).1 + 3))), (.int .u64 (vget img l ((ifind (img.length : Int) gw gi gb n_).1 + 4))), (.int .u64 0), (.int .u64 0), (.int .u64 0), (.int .u64 0), (.int .u64 0)].toArray 188 (0, 0)), blk b7 (.cells [(.int .u64 0), (.int .u64 0), (.int .u64 0), (.int .u64 0), (.int .u64 0), (.int .u64 0), (.int .u64 0), (.int .u64 0), (.int .u64 0), (.int .u64 0)].toArray 153 (0, 0)), blk b4 (.cells [(.int .i64 gw), (.int .i64 gi), (.int .i64 gb)].toArray 31 (0, 0))] := hs74
  refine zD ?_
  refine normal_block ?_
  refine hK68 _ _ ?_
  refine W.region ?_
  refine zE 2 ?_
  refine loopAt_next ?_
  refine loopAt_round ?_
  refine W.sr fun K76 hK76 => ?_
  refine zE 1 (hK76 _ _ ?_)
  refine W.seq fun K77 hK77 => ?_
  refine W.cond_true true (by kernel_rfl) rfl ?_
  refine W.skip ?_
  refine hK77 _ _ ?_
  refine W.seq fun K78 hK78 => ?_
  refine W.block ?_
  refine W.sr fun K79 hK79 => ?_
  refine zE 2 (hK79 _ _ ?_)
  refine W.region ?_
  refine zR 4 ?_
  refine zI ((ifind (img.length : Int) gw gi gb n_).1 + 5) (wrap_i64 (by omega) (by omega)) ?_
  refine zC00 hs75 (get_spec (at_ := ((ifind (img.length : Int) gw gi gb n_).1 + 5)) (hv := (viewAt_old hs75 hv)) B _) fun w80 hs82 => ?_
  refine zR 1 ?_
  refine ops_store (off := 5) (cs := [(.int .u64 (vget img l ((ifind (img.length : Int) gw gi gb n_).1 + 0))), (.int .u64 (vget img l ((ifind (img.length : Int) gw gi gb n_).1 + 1))), (.int .u64 (vget img l ((ifind (img.length : Int) gw gi gb n_).1 + 2))), (.int .u64 (vget img l ((ifind (img.length : Int) gw gi gb n_).1 + 3))), (.int .u64 (vget img l ((ifind (img.length : Int) gw gi gb n_).1 + 4))), (.int .u64 0), (.int .u64 0), (.int .u64 0), (.int .u64 0), (.int .u64 0)]) (vs := [(.int .u64 (vget img l ((ifind (img.length : Int) gw gi gb n_).1 + 5)))]) hs82 (by kernel_rfl) (by simp) rfl (fun w83 hs84 => ?_)
  have hs85 : St B w [] w83 [blk b23 (.cells [(.int .u64 (vget img l ((ifind (img.length : Int) gw gi gb n_).1 + 0))), (.int .u64 (vget img l ((ifind (img.length : Int) gw gi gb n_).1 + 1))), (.int .u64 (vget img l ((ifind (img.length : Int) gw gi gb n_).1 + 2))), (.int .u64 (vget img l ((ifind (img.length : Int) gw gi gb n_).1 + 3))), (.int .u64 (vget img l ((ifind (img.length : Int) gw gi gb n_).1 + 4))), (.int .u64 (vget img l ((ifind (img.length : Int) gw gi gb n_).1 + 5))), (.int .u64 0), (.int .u64 0), (.int .u64 0), (.int .u64 0)].toArray 188 (0, 0)), blk b7 (.cells [(.int .u64 0), (.int .u64 0), (.int .u64 0), (.int .u64 0), (.int .u64 0), (.int .u64 0), (.int .u64 0), (.int .u64 0), (.int .u64 0), (.int .u64 0)].toArray 153 (0, 0)), blk b4 (.cells [(.int .i64 gw), (.int .i64 gi), (.int .i64 gb)].toArray 31 (0, 0))] := hs84
  refine zD ?_
  refine normal_block ?_
  refine hK78 _ _ ?_
  refine W.region ?_
  refine zE 2 ?_
  refine loopAt_next ?_
  refine loopAt_round ?_
  refine W.sr fun K86 hK86 => ?_
  refine zE 1 (hK86 _ _ ?_)
  refine W.seq fun K87 hK87 => ?_
  refine W.cond_true true (by kernel_rfl) rfl ?_
  refine W.skip ?_
  refine hK87 _ _ ?_
  refine W.seq fun K88 hK88 => ?_
  refine W.block ?_
  refine W.sr fun K89 hK89 => ?_
  refine zE 2 (hK89 _ _ ?_)
  refine W.region ?_
  refine zR 4 ?_
  refine zI ((ifind (img.length : Int) gw gi gb n_).1 + 6) (wrap_i64 (by omega) (by omega)) ?_
  refine zC00 hs85 (get_spec (at_ := ((ifind (img.length : Int) gw gi gb n_).1 + 6)) (hv := (viewAt_old hs85 hv)) B _) fun w90 hs92 => ?_
  refine zR 1 ?_
  refine ops_store (off := 6) (cs := [(.int .u64 (vget img l ((ifind (img.length : Int) gw gi gb n_).1 + 0))), (.int .u64 (vget img l ((ifind (img.length : Int) gw gi gb n_).1 + 1))), (.int .u64 (vget img l ((ifind (img.length : Int) gw gi gb n_).1 + 2))), (.int .u64 (vget img l ((ifind (img.length : Int) gw gi gb n_).1 + 3))), (.int .u64 (vget img l ((ifind (img.length : Int) gw gi gb n_).1 + 4))), (.int .u64 (vget img l ((ifind (img.length : Int) gw gi gb n_).1 + 5))), (.int .u64 0), (.int .u64 0), (.int .u64 0), (.int .u64 0)]) (vs := [(.int .u64 (vget img l ((ifind (img.length : Int) gw gi gb n_).1 + 6)))]) hs92 (by kernel_rfl) (by simp) rfl (fun w93 hs94 => ?_)
  have hs95 : St B w [] w93 [blk b23 (.cells [(.int .u64 (vget img l ((ifind (img.length : Int) gw gi gb n_).1 + 0))), (.int .u64 (vget img l ((ifind (img.length : Int) gw gi gb n_).1 + 1))), (.int .u64 (vget img l ((ifind (img.length : Int) gw gi gb n_).1 + 2))), (.int .u64 (vget img l ((ifind (img.length : Int) gw gi gb n_).1 + 3))), (.int .u64 (vget img l ((ifind (img.length : Int) gw gi gb n_).1 + 4))), (.int .u64 (vget img l ((ifind (img.length : Int) gw gi gb n_).1 + 5))), (.int .u64 (vget img l ((ifind (img.length : Int) gw gi gb n_).1 + 6))), (.int .u64 0), (.int .u64 0), (.int .u64 0)].toArray 188 (0, 0)), blk b7 (.cells [(.int .u64 0), (.int .u64 0), (.int .u64 0), (.int .u64 0), (.int .u64 0), (.int .u64 0), (.int .u64 0), (.int .u64 0), (.int .u64 0), (.int .u64 0)].toArray 153 (0, 0)), blk b4 (.cells [(.int .i64 gw), (.int .i64 gi), (.int .i64 gb)].toArray 31 (0, 0))] := hs94
  refine zD ?_
  refine normal_block ?_
  refine hK88 _ _ ?_
  refine W.region ?_
  refine zE 2 ?_
  refine loopAt_next ?_
  refine loopAt_round ?_
  refine W.sr fun K96 hK96 => ?_
  refine zE 1 (hK96 _ _ ?_)
  refine W.seq fun K97 hK97 => ?_
  refine W.cond_true true (by kernel_rfl) rfl ?_
  refine W.skip ?_
  refine hK97 _ _ ?_
  refine W.seq fun K98 hK98 => ?_
  refine W.block ?_
  refine W.sr fun K99 hK99 => ?_
  refine zE 2 (hK99 _ _ ?_)
  refine W.region ?_
  refine zR 4 ?_
  refine zI ((ifind (img.length : Int) gw gi gb n_).1 + 7) (wrap_i64 (by omega) (by omega)) ?_
  refine zC00 hs95 (get_spec (at_ := ((ifind (img.length : Int) gw gi gb n_).1 + 7)) (hv := (viewAt_old hs95 hv)) B _) fun w100 hs102 => ?_
  refine zR 1 ?_
  refine ops_store (off := 7) (cs := [(.int .u64 (vget img l ((ifind (img.length : Int) gw gi gb n_).1 + 0))), (.int .u64 (vget img l ((ifind (img.length : Int) gw gi gb n_).1 + 1))), (.int .u64 (vget img l ((ifind (img.length : Int) gw gi gb n_).1 + 2))), (.int .u64 (vget img l ((ifind (img.length : Int) gw gi gb n_).1 + 3))), (.int .u64 (vget img l ((ifind (img.length : Int) gw gi gb n_).1 + 4))), (.int .u64 (vget img l ((ifind (img.length : Int) gw gi gb n_).1 + 5))), (.int .u64 (vget img l ((ifind (img.length : Int) gw gi gb n_).1 + 6))), (.int .u64 0), (.int .u64 0), (.int .u64 0)]) (vs := [(.int .u64 (vget img l ((ifind (img.length : Int) gw gi gb n_).1 + 7)))]) hs102 (by kernel_rfl) (by simp) rfl (fun w103 hs104 => ?_)
  have hs105 : St B w [] w103 [blk b23 (.cells [(.int .u64 (vget img l ((ifind (img.length : Int) gw gi gb n_).1 + 0))), (.int .u64 (vget img l ((ifind (img.length : Int) gw gi gb n_).1 + 1))), (.int .u64 (vget img l ((ifind (img.length : Int) gw gi gb n_).1 + 2))), (.int .u64 (vget img l ((ifind (img.length : Int) gw gi gb n_).1 + 3))), (.int .u64 (vget img l ((ifind (img.length : Int) gw gi gb n_).1 + 4))), (.int .u64 (vget img l ((ifind (img.length : Int) gw gi gb n_).1 + 5))), (.int .u64 (vget img l ((ifind (img.length : Int) gw gi gb n_).1 + 6))), (.int .u64 (vget img l ((ifind (img.length : Int) gw gi gb n_).1 + 7))), (.int .u64 0), (.int .u64 0)].toArray 188 (0, 0)), blk b7 (.cells [(.int .u64 0), (.int .u64 0), (.int .u64 0), (.int .u64 0), (.int .u64 0), (.int .u64 0), (.int .u64 0), (.int .u64 0), (.int .u64 0), (.int .u64 0)].toArray 153 (0, 0)), blk b4 (.cells [(.int .i64 gw), (.int .i64 gi), (.int .i64 gb)].toArray 31 (0, 0))] := hs104
  refine zD ?_
  refine normal_block ?_
  refine hK98 _ _ ?_
  refine W.region ?_
  refine zE 2 ?_
  refine loopAt_next ?_
  refine loopAt_round ?_
  refine W.sr fun K106 hK106 => ?_
  refine zE 1 (hK106 _ _ ?_)
  refine W.seq fun K107 hK107 => ?_
  refine W.cond_true true (by kernel_rfl) rfl ?_
  refine W.skip ?_
  refine hK107 _ _ ?_
  refine W.seq fun K108 hK108 => ?_
  refine W.block ?_
  refine W.sr fun K109 hK109 => ?_
  refine zE 2 (hK109 _ _ ?_)
  refine W.region ?_
  refine zR 4 ?_
  refine zI ((ifind (img.length : Int) gw gi gb n_).1 + 8) (wrap_i64 (by omega) (by omega)) ?_
  refine zC00 hs105 (get_spec (at_ := ((ifind (img.length : Int) gw gi gb n_).1 + 8)) (hv := (viewAt_old hs105 hv)) B _) fun w110 hs112 => ?_
  refine zR 1 ?_
  refine ops_store (off := 8) (cs := [(.int .u64 (vget img l ((ifind (img.length : Int) gw gi gb n_).1 + 0))), (.int .u64 (vget img l ((ifind (img.length : Int) gw gi gb n_).1 + 1))), (.int .u64 (vget img l ((ifind (img.length : Int) gw gi gb n_).1 + 2))), (.int .u64 (vget img l ((ifind (img.length : Int) gw gi gb n_).1 + 3))), (.int .u64 (vget img l ((ifind (img.length : Int) gw gi gb n_).1 + 4))), (.int .u64 (vget img l ((ifind (img.length : Int) gw gi gb n_).1 + 5))), (.int .u64 (vget img l ((ifind (img.length : Int) gw gi gb n_).1 + 6))), (.int .u64 (vget img l ((ifind (img.length : Int) gw gi gb n_).1 + 7))), (.int .u64 0), (.int .u64 0)]) (vs := [(.int .u64 (vget img l ((ifind (img.length : Int) gw gi gb n_).1 + 8)))]) hs112 (by kernel_rfl) (by simp) rfl (fun w113 hs114 => ?_)
  have hs115 : St B w [] w113 [blk b23 (.cells [(.int .u64 (vget img l ((ifind (img.length : Int) gw gi gb n_).1 + 0))), (.int .u64 (vget img l ((ifind (img.length : Int) gw gi gb n_).1 + 1))), (.int .u64 (vget img l ((ifind (img.length : Int) gw gi gb n_).1 + 2))), (.int .u64 (vget img l ((ifind (img.length : Int) gw gi gb n_).1 + 3))), (.int .u64 (vget img l ((ifind (img.length : Int) gw gi gb n_).1 + 4))), (.int .u64 (vget img l ((ifind (img.length : Int) gw gi gb n_).1 + 5))), (.int .u64 (vget img l ((ifind (img.length : Int) gw gi gb n_).1 + 6))), (.int .u64 (vget img l ((ifind (img.length : Int) gw gi gb n_).1 + 7))), (.int .u64 (vget img l ((ifind (img.length : Int) gw gi gb n_).1 + 8))), (.int .u64 0)].toArray 188 (0, 0)), blk b7 (.cells [(.int .u64 0), (.int .u64 0), (.int .u64 0), (.int .u64 0), (.int .u64 0), (.int .u64 0), (.int .u64 0), (.int .u64 0), (.int .u64 0), (.int .u64 0)].toArray 153 (0, 0)), blk b4 (.cells [(.int .i64 gw), (.int .i64 gi), (.int .i64 gb)].toArray 31 (0, 0))] := hs114
  refine zD ?_
  refine normal_block ?_
  refine hK108 _ _ ?_
  refine W.region ?_
  refine zE 2 ?_
  refine loopAt_next ?_
  refine loopAt_round ?_
  refine W.sr fun K116 hK116 => ?_
  refine zE 1 (hK116 _ _ ?_)
  refine W.seq fun K117 hK117 => ?_
  refine W.cond_true true (by kernel_rfl) rfl ?_
  refine W.skip ?_
  refine hK117 _ _ ?_
  refine W.seq fun K118 hK118 => ?_
  refine W.block ?_
  refine W.sr fun K119 hK119 => ?_
  refine zE 2 (hK119 _ _ ?_)
  refine W.region ?_
  refine zR 4 ?_
  refine zI ((ifind (img.length : Int) gw gi gb n_).1 + 9) (wrap_i64 (by omega) (by omega)) ?_
  refine zC00 hs115 (get_spec (at_ := ((ifind (img.length : Int) gw gi gb n_).1 + 9)) (hv := (viewAt_old hs115 hv)) B _) fun w120 hs122 => ?_
  refine zR 1 ?_
  refine ops_store (off := 9) (cs := [(.int .u64 (vget img l ((ifind (img.length : Int) gw gi gb n_).1 + 0))), (.int .u64 (vget img l ((ifind (img.length : Int) gw gi gb n_).1 + 1))), (.int .u64 (vget img l ((ifind (img.length : Int) gw gi gb n_).1 + 2))), (.int .u64 (vget img l ((ifind (img.length : Int) gw gi gb n_).1 + 3))), (.int .u64 (vget img l ((ifind (img.length : Int) gw gi gb n_).1 + 4))), (.int .u64 (vget img l ((ifind (img.length : Int) gw gi gb n_).1 + 5))), (.int .u64 (vget img l ((ifind (img.length : Int) gw gi gb n_).1 + 6))), (.int .u64 (vget img l ((ifind (img.length : Int) gw gi gb n_).1 + 7))), (.int .u64 (vget img l ((ifind (img.length : Int) gw gi gb n_).1 + 8))), (.int .u64 0)]) (vs := [(.int .u64 (vget img l ((ifind (img.length : Int) gw gi gb n_).1 + 9)))]) hs122 (by kernel_rfl) (by simp) rfl (fun w123 hs124 => ?_)
  have hs125 : St B w [] w123 [blk b23 (.cells [(.int .u64 (vget img l ((ifind (img.length : Int) gw gi gb n_).1 + 0))), (.int .u64 (vget img l ((ifind (img.length : Int) gw gi gb n_).1 + 1))), (.int .u64 (vget img l ((ifind (img.length : Int) gw gi gb n_).1 + 2))), (.int .u64 (vget img l ((ifind (img.length : Int) gw gi gb n_).1 + 3))), (.int .u64 (vget img l ((ifind (img.length : Int) gw gi gb n_).1 + 4))), (.int .u64 (vget img l ((ifind (img.length : Int) gw gi gb n_).1 + 5))), (.int .u64 (vget img l ((ifind (img.length : Int) gw gi gb n_).1 + 6))), (.int .u64 (vget img l ((ifind (img.length : Int) gw gi gb n_).1 + 7))), (.int .u64 (vget img l ((ifind (img.length : Int) gw gi gb n_).1 + 8))), (.int .u64 (vget img l ((ifind (img.length : Int) gw gi gb n_).1 + 9)))].toArray 188 (0, 0)), blk b7 (.cells [(.int .u64 0), (.int .u64 0), (.int .u64 0), (.int .u64 0), (.int .u64 0), (.int .u64 0), (.int .u64 0), (.int .u64 0), (.int .u64 0), (.int .u64 0)].toArray 153 (0, 0)), blk b4 (.cells [(.int .i64 gw), (.int .i64 gi), (.int .i64 gb)].toArray 31 (0, 0))] := hs124
  refine zD ?_
  refine normal_block ?_
  refine hK118 _ _ ?_
  refine W.region ?_
  refine zE 2 ?_
  refine loopAt_next ?_
  refine loopAt_round ?_
  refine W.sr fun K126 hK126 => ?_
  refine zE 1 (hK126 _ _ ?_)
  refine W.seq fun K127 hK127 => ?_
  refine W.cond_false false (by kernel_rfl) rfl ?_
  refine W.exit (exit_seq (exit_seq (exit_here ?_)))
  refine hK24 _ _ ?_
  refine W.sr fun K128 hK128 => ?_
  refine ops_R (runs_loadAgg (ad := ⟨b23, 0, none⟩) (cs := [(.int .u64 (vget img l ((ifind (img.length : Int) gw gi gb n_).1 + 0))), (.int .u64 (vget img l ((ifind (img.length : Int) gw gi gb n_).1 + 1))), (.int .u64 (vget img l ((ifind (img.length : Int) gw gi gb n_).1 + 2))), (.int .u64 (vget img l ((ifind (img.length : Int) gw gi gb n_).1 + 3))), (.int .u64 (vget img l ((ifind (img.length : Int) gw gi gb n_).1 + 4))), (.int .u64 (vget img l ((ifind (img.length : Int) gw gi gb n_).1 + 5))), (.int .u64 (vget img l ((ifind (img.length : Int) gw gi gb n_).1 + 6))), (.int .u64 (vget img l ((ifind (img.length : Int) gw gi gb n_).1 + 7))), (.int .u64 (vget img l ((ifind (img.length : Int) gw gi gb n_).1 + 8))), (.int .u64 (vget img l ((ifind (img.length : Int) gw gi gb n_).1 + 9)))]) (by kernel_rfl) (cells_sub (hs125.heapAt 0 rfl) rfl)) ?_
  refine zC00 hs125 (inode_spec (x_ := ⟨(vget img l ((ifind (img.length : Int) gw gi gb n_).1 + 0)), (vget img l ((ifind (img.length : Int) gw gi gb n_).1 + 1)), (vget img l ((ifind (img.length : Int) gw gi gb n_).1 + 2)), (vget img l ((ifind (img.length : Int) gw gi gb n_).1 + 3)), (vget img l ((ifind (img.length : Int) gw gi gb n_).1 + 4)), (vget img l ((ifind (img.length : Int) gw gi gb n_).1 + 5)), (vget img l ((ifind (img.length : Int) gw gi gb n_).1 + 6)), (vget img l ((ifind (img.length : Int) gw gi gb n_).1 + 7)), (vget img l ((ifind (img.length : Int) gw gi gb n_).1 + 8)), (vget img l ((ifind (img.length : Int) gw gi gb n_).1 + 9))⟩) B _) fun w129 hs131 => ?_
  refine zN [(.int .u64 0), (.int .u64 0), (.int .u64 0), (.int .u64 0), (.int .u64 0), (.int .u64 0), (.int .u64 0), (.int .u64 0), (.int .u64 0), (.int .u64 0)] 153 hs131 fun b134 w132 hs133 => ?_
  refine ops_store (off := 0) (cs := [(.int .u64 0), (.int .u64 0), (.int .u64 0), (.int .u64 0), (.int .u64 0), (.int .u64 0), (.int .u64 0), (.int .u64 0), (.int .u64 0), (.int .u64 0)]) (vs := [(.int .u64 (vget img l ((ifind (img.length : Int) gw gi gb n_).1 + 0))), (.int .u64 (vget img l ((ifind (img.length : Int) gw gi gb n_).1 + 1))), (.int .u64 (vget img l ((ifind (img.length : Int) gw gi gb n_).1 + 2))), (.int .u64 (vget img l ((ifind (img.length : Int) gw gi gb n_).1 + 3))), (.int .u64 (vget img l ((ifind (img.length : Int) gw gi gb n_).1 + 4))), (.int .u64 (vget img l ((ifind (img.length : Int) gw gi gb n_).1 + 5))), (.int .u64 (vget img l ((ifind (img.length : Int) gw gi gb n_).1 + 6))), (.int .u64 (vget img l ((ifind (img.length : Int) gw gi gb n_).1 + 7))), (.int .u64 (vget img l ((ifind (img.length : Int) gw gi gb n_).1 + 8))), (.int .u64 (vget img l ((ifind (img.length : Int) gw gi gb n_).1 + 9)))]) hs133 (by kernel_rfl) (by simp) rfl (fun w135 hs136 => ?_)
  have hs137 : St B w [] w135 [blk b134 (.cells [(.int .u64 (vget img l ((ifind (img.length : Int) gw gi gb n_).1 + 0))), (.int .u64 (vget img l ((ifind (img.length : Int) gw gi gb n_).1 + 1))), (.int .u64 (vget img l ((ifind (img.length : Int) gw gi gb n_).1 + 2))), (.int .u64 (vget img l ((ifind (img.length : Int) gw gi gb n_).1 + 3))), (.int .u64 (vget img l ((ifind (img.length : Int) gw gi gb n_).1 + 4))), (.int .u64 (vget img l ((ifind (img.length : Int) gw gi gb n_).1 + 5))), (.int .u64 (vget img l ((ifind (img.length : Int) gw gi gb n_).1 + 6))), (.int .u64 (vget img l ((ifind (img.length : Int) gw gi gb n_).1 + 7))), (.int .u64 (vget img l ((ifind (img.length : Int) gw gi gb n_).1 + 8))), (.int .u64 (vget img l ((ifind (img.length : Int) gw gi gb n_).1 + 9)))].toArray 153 (0, 0)), blk b23 (.cells [(.int .u64 (vget img l ((ifind (img.length : Int) gw gi gb n_).1 + 0))), (.int .u64 (vget img l ((ifind (img.length : Int) gw gi gb n_).1 + 1))), (.int .u64 (vget img l ((ifind (img.length : Int) gw gi gb n_).1 + 2))), (.int .u64 (vget img l ((ifind (img.length : Int) gw gi gb n_).1 + 3))), (.int .u64 (vget img l ((ifind (img.length : Int) gw gi gb n_).1 + 4))), (.int .u64 (vget img l ((ifind (img.length : Int) gw gi gb n_).1 + 5))), (.int .u64 (vget img l ((ifind (img.length : Int) gw gi gb n_).1 + 6))), (.int .u64 (vget img l ((ifind (img.length : Int) gw gi gb n_).1 + 7))), (.int .u64 (vget img l ((ifind (img.length : Int) gw gi gb n_).1 + 8))), (.int .u64 (vget img l ((ifind (img.length : Int) gw gi gb n_).1 + 9)))].toArray 188 (0, 0)), blk b7 (.cells [(.int .u64 0), (.int .u64 0), (.int .u64 0), (.int .u64 0), (.int .u64 0), (.int .u64 0), (.int .u64 0), (.int .u64 0), (.int .u64 0), (.int .u64 0)].toArray 153 (0, 0)), blk b4 (.cells [(.int .i64 gw), (.int .i64 gi), (.int .i64 gb)].toArray 31 (0, 0))] := hs136
  refine zD (hK128 _ _ ?_)
  refine W.seq fun K138 hK138 => ?_
  refine W.sr fun K139 hK139 => ?_
  refine ops_R (runs_loadAgg (ad := ⟨b4, 0, none⟩) (cs := [(.int .i64 gw), (.int .i64 gi), (.int .i64 gb)]) (by kernel_rfl) (cells_sub (hs137.heapAt 3 rfl) rfl)) ?_
  refine ops_R (runs_loadAgg (ad := ⟨b134, 0, none⟩) (cs := [(.int .u64 (vget img l ((ifind (img.length : Int) gw gi gb n_).1 + 0))), (.int .u64 (vget img l ((ifind (img.length : Int) gw gi gb n_).1 + 1))), (.int .u64 (vget img l ((ifind (img.length : Int) gw gi gb n_).1 + 2))), (.int .u64 (vget img l ((ifind (img.length : Int) gw gi gb n_).1 + 3))), (.int .u64 (vget img l ((ifind (img.length : Int) gw gi gb n_).1 + 4))), (.int .u64 (vget img l ((ifind (img.length : Int) gw gi gb n_).1 + 5))), (.int .u64 (vget img l ((ifind (img.length : Int) gw gi gb n_).1 + 6))), (.int .u64 (vget img l ((ifind (img.length : Int) gw gi gb n_).1 + 7))), (.int .u64 (vget img l ((ifind (img.length : Int) gw gi gb n_).1 + 8))), (.int .u64 (vget img l ((ifind (img.length : Int) gw gi gb n_).1 + 9)))]) (by kernel_rfl) (cells_sub (hs137.heapAt 0 rfl) rfl)) ?_
  refine zC00 hs137 (right_spec (gw := gw) (gi := gi) (gb := gb) (x_ := ⟨(vget img l ((ifind (img.length : Int) gw gi gb n_).1 + 0)), (vget img l ((ifind (img.length : Int) gw gi gb n_).1 + 1)), (vget img l ((ifind (img.length : Int) gw gi gb n_).1 + 2)), (vget img l ((ifind (img.length : Int) gw gi gb n_).1 + 3)), (vget img l ((ifind (img.length : Int) gw gi gb n_).1 + 4)), (vget img l ((ifind (img.length : Int) gw gi gb n_).1 + 5)), (vget img l ((ifind (img.length : Int) gw gi gb n_).1 + 6)), (vget img l ((ifind (img.length : Int) gw gi gb n_).1 + 7)), (vget img l ((ifind (img.length : Int) gw gi gb n_).1 + 8)), (vget img l ((ifind (img.length : Int) gw gi gb n_).1 + 9))⟩) B _) fun w140 hs142 => ?_
  refine zE 1 (hK139 _ _ ?_)
  refine W.cond (!(decide (RightP gw gi gb ⟨(vget img l ((ifind (img.length : Int) gw gi gb n_).1 + 0)), (vget img l ((ifind (img.length : Int) gw gi gb n_).1 + 1)), (vget img l ((ifind (img.length : Int) gw gi gb n_).1 + 2)), (vget img l ((ifind (img.length : Int) gw gi gb n_).1 + 3)), (vget img l ((ifind (img.length : Int) gw gi gb n_).1 + 4)), (vget img l ((ifind (img.length : Int) gw gi gb n_).1 + 5)), (vget img l ((ifind (img.length : Int) gw gi gb n_).1 + 6)), (vget img l ((ifind (img.length : Int) gw gi gb n_).1 + 7)), (vget img l ((ifind (img.length : Int) gw gi gb n_).1 + 8)), (vget img l ((ifind (img.length : Int) gw gi gb n_).1 + 9))⟩))) (by kernel_rfl) (fun h143 => ?_) (fun h143 => ?_)
  ·
   have h143p : ¬ (RightP gw gi gb ⟨(vget img l ((ifind (img.length : Int) gw gi gb n_).1 + 0)), (vget img l ((ifind (img.length : Int) gw gi gb n_).1 + 1)), (vget img l ((ifind (img.length : Int) gw gi gb n_).1 + 2)), (vget img l ((ifind (img.length : Int) gw gi gb n_).1 + 3)), (vget img l ((ifind (img.length : Int) gw gi gb n_).1 + 4)), (vget img l ((ifind (img.length : Int) gw gi gb n_).1 + 5)), (vget img l ((ifind (img.length : Int) gw gi gb n_).1 + 6)), (vget img l ((ifind (img.length : Int) gw gi gb n_).1 + 7)), (vget img l ((ifind (img.length : Int) gw gi gb n_).1 + 8)), (vget img l ((ifind (img.length : Int) gw gi gb n_).1 + 9))⟩) := of_decide_eq_false (bnot_true h143)
   refine W.sr fun K144 hK144 => ?_
   refine zR 1 ?_
   have hs147 := St.f2 hs142
   refine ops_store (off := 0) (cs := [(.int .u64 0), (.int .u64 0), (.int .u64 0), (.int .u64 0), (.int .u64 0), (.int .u64 0), (.int .u64 0), (.int .u64 0), (.int .u64 0), (.int .u64 0)]) (vs := [(.int .u64 0), (.int .u64 0), (.int .u64 0), (.int .u64 0), (.int .u64 0), (.int .u64 0), (.int .u64 0), (.int .u64 0), (.int .u64 0), (.int .u64 0)]) hs147 (by kernel_rfl) (by simp) rfl (fun w145 hs146 => ?_)
   have hs148 : St B w [] w145 [blk b7 (.cells [(.int .u64 0), (.int .u64 0), (.int .u64 0), (.int .u64 0), (.int .u64 0), (.int .u64 0), (.int .u64 0), (.int .u64 0), (.int .u64 0), (.int .u64 0)].toArray 153 (0, 0)), blk b134 (.cells [(.int .u64 (vget img l ((ifind (img.length : Int) gw gi gb n_).1 + 0))), (.int .u64 (vget img l ((ifind (img.length : Int) gw gi gb n_).1 + 1))), (.int .u64 (vget img l ((ifind (img.length : Int) gw gi gb n_).1 + 2))), (.int .u64 (vget img l ((ifind (img.length : Int) gw gi gb n_).1 + 3))), (.int .u64 (vget img l ((ifind (img.length : Int) gw gi gb n_).1 + 4))), (.int .u64 (vget img l ((ifind (img.length : Int) gw gi gb n_).1 + 5))), (.int .u64 (vget img l ((ifind (img.length : Int) gw gi gb n_).1 + 6))), (.int .u64 (vget img l ((ifind (img.length : Int) gw gi gb n_).1 + 7))), (.int .u64 (vget img l ((ifind (img.length : Int) gw gi gb n_).1 + 8))), (.int .u64 (vget img l ((ifind (img.length : Int) gw gi gb n_).1 + 9)))].toArray 153 (0, 0)), blk b23 (.cells [(.int .u64 (vget img l ((ifind (img.length : Int) gw gi gb n_).1 + 0))), (.int .u64 (vget img l ((ifind (img.length : Int) gw gi gb n_).1 + 1))), (.int .u64 (vget img l ((ifind (img.length : Int) gw gi gb n_).1 + 2))), (.int .u64 (vget img l ((ifind (img.length : Int) gw gi gb n_).1 + 3))), (.int .u64 (vget img l ((ifind (img.length : Int) gw gi gb n_).1 + 4))), (.int .u64 (vget img l ((ifind (img.length : Int) gw gi gb n_).1 + 5))), (.int .u64 (vget img l ((ifind (img.length : Int) gw gi gb n_).1 + 6))), (.int .u64 (vget img l ((ifind (img.length : Int) gw gi gb n_).1 + 7))), (.int .u64 (vget img l ((ifind (img.length : Int) gw gi gb n_).1 + 8))), (.int .u64 (vget img l ((ifind (img.length : Int) gw gi gb n_).1 + 9)))].toArray 188 (0, 0)), blk b4 (.cells [(.int .i64 gw), (.int .i64 gi), (.int .i64 gb)].toArray 31 (0, 0))] := hs146
   refine zE 1 (hK144 _ _ ?_)
   refine W.ret (ret_seq ?_)
   have e_ : igetM img l gw gi gb n_ = (Nd.zero, 4) := by first | (exfalso; omega) | (simp only [igetM]; rw [if_pos (by assumption)]; exact if_neg (by assumption))
   have hs149 := St.tk0 hs148
   refine ret_of (.tuple #[(.agg #[(.int .u64 0), (.int .u64 0), (.int .u64 0), (.int .u64 0), (.int .u64 0), (.int .u64 0), (.int .u64 0), (.int .u64 0), (.int .u64 0), (.int .u64 0)]), (.int .i64 4)]) (results_cell2 (ad := ⟨b7, 0, none⟩) (cs := [(.int .u64 0), (.int .u64 0), (.int .u64 0), (.int .u64 0), (.int .u64 0), (.int .u64 0), (.int .u64 0), (.int .u64 0), (.int .u64 0), (.int .u64 0)]) rfl (by kernel_rfl) (by kernel_rfl) (by kernel_rfl) (cells_sub (hs148.heapAt 0 rfl) rfl)) ⟨_, ⟨by rw [e_]; try rfl, rfl⟩, hs149⟩
  ·
   have h143p : RightP gw gi gb ⟨(vget img l ((ifind (img.length : Int) gw gi gb n_).1 + 0)), (vget img l ((ifind (img.length : Int) gw gi gb n_).1 + 1)), (vget img l ((ifind (img.length : Int) gw gi gb n_).1 + 2)), (vget img l ((ifind (img.length : Int) gw gi gb n_).1 + 3)), (vget img l ((ifind (img.length : Int) gw gi gb n_).1 + 4)), (vget img l ((ifind (img.length : Int) gw gi gb n_).1 + 5)), (vget img l ((ifind (img.length : Int) gw gi gb n_).1 + 6)), (vget img l ((ifind (img.length : Int) gw gi gb n_).1 + 7)), (vget img l ((ifind (img.length : Int) gw gi gb n_).1 + 8)), (vget img l ((ifind (img.length : Int) gw gi gb n_).1 + 9))⟩ := of_decide_eq_true (bnot_false h143)
   refine W.skip ?_
   refine hK138 _ _ ?_
   refine W.sr fun K150 hK150 => ?_
   refine ops_R (runs_loadAgg (ad := ⟨b134, 0, none⟩) (cs := [(.int .u64 (vget img l ((ifind (img.length : Int) gw gi gb n_).1 + 0))), (.int .u64 (vget img l ((ifind (img.length : Int) gw gi gb n_).1 + 1))), (.int .u64 (vget img l ((ifind (img.length : Int) gw gi gb n_).1 + 2))), (.int .u64 (vget img l ((ifind (img.length : Int) gw gi gb n_).1 + 3))), (.int .u64 (vget img l ((ifind (img.length : Int) gw gi gb n_).1 + 4))), (.int .u64 (vget img l ((ifind (img.length : Int) gw gi gb n_).1 + 5))), (.int .u64 (vget img l ((ifind (img.length : Int) gw gi gb n_).1 + 6))), (.int .u64 (vget img l ((ifind (img.length : Int) gw gi gb n_).1 + 7))), (.int .u64 (vget img l ((ifind (img.length : Int) gw gi gb n_).1 + 8))), (.int .u64 (vget img l ((ifind (img.length : Int) gw gi gb n_).1 + 9)))]) (by kernel_rfl) (cells_sub (hs142.heapAt 0 rfl) rfl)) ?_
   have hs153 := St.f2 hs142
   refine ops_store (off := 0) (cs := [(.int .u64 0), (.int .u64 0), (.int .u64 0), (.int .u64 0), (.int .u64 0), (.int .u64 0), (.int .u64 0), (.int .u64 0), (.int .u64 0), (.int .u64 0)]) (vs := [(.int .u64 (vget img l ((ifind (img.length : Int) gw gi gb n_).1 + 0))), (.int .u64 (vget img l ((ifind (img.length : Int) gw gi gb n_).1 + 1))), (.int .u64 (vget img l ((ifind (img.length : Int) gw gi gb n_).1 + 2))), (.int .u64 (vget img l ((ifind (img.length : Int) gw gi gb n_).1 + 3))), (.int .u64 (vget img l ((ifind (img.length : Int) gw gi gb n_).1 + 4))), (.int .u64 (vget img l ((ifind (img.length : Int) gw gi gb n_).1 + 5))), (.int .u64 (vget img l ((ifind (img.length : Int) gw gi gb n_).1 + 6))), (.int .u64 (vget img l ((ifind (img.length : Int) gw gi gb n_).1 + 7))), (.int .u64 (vget img l ((ifind (img.length : Int) gw gi gb n_).1 + 8))), (.int .u64 (vget img l ((ifind (img.length : Int) gw gi gb n_).1 + 9)))]) hs153 (by kernel_rfl) (by simp) rfl (fun w151 hs152 => ?_)
   have hs154 : St B w [] w151 [blk b7 (.cells [(.int .u64 (vget img l ((ifind (img.length : Int) gw gi gb n_).1 + 0))), (.int .u64 (vget img l ((ifind (img.length : Int) gw gi gb n_).1 + 1))), (.int .u64 (vget img l ((ifind (img.length : Int) gw gi gb n_).1 + 2))), (.int .u64 (vget img l ((ifind (img.length : Int) gw gi gb n_).1 + 3))), (.int .u64 (vget img l ((ifind (img.length : Int) gw gi gb n_).1 + 4))), (.int .u64 (vget img l ((ifind (img.length : Int) gw gi gb n_).1 + 5))), (.int .u64 (vget img l ((ifind (img.length : Int) gw gi gb n_).1 + 6))), (.int .u64 (vget img l ((ifind (img.length : Int) gw gi gb n_).1 + 7))), (.int .u64 (vget img l ((ifind (img.length : Int) gw gi gb n_).1 + 8))), (.int .u64 (vget img l ((ifind (img.length : Int) gw gi gb n_).1 + 9)))].toArray 153 (0, 0)), blk b134 (.cells [(.int .u64 (vget img l ((ifind (img.length : Int) gw gi gb n_).1 + 0))), (.int .u64 (vget img l ((ifind (img.length : Int) gw gi gb n_).1 + 1))), (.int .u64 (vget img l ((ifind (img.length : Int) gw gi gb n_).1 + 2))), (.int .u64 (vget img l ((ifind (img.length : Int) gw gi gb n_).1 + 3))), (.int .u64 (vget img l ((ifind (img.length : Int) gw gi gb n_).1 + 4))), (.int .u64 (vget img l ((ifind (img.length : Int) gw gi gb n_).1 + 5))), (.int .u64 (vget img l ((ifind (img.length : Int) gw gi gb n_).1 + 6))), (.int .u64 (vget img l ((ifind (img.length : Int) gw gi gb n_).1 + 7))), (.int .u64 (vget img l ((ifind (img.length : Int) gw gi gb n_).1 + 8))), (.int .u64 (vget img l ((ifind (img.length : Int) gw gi gb n_).1 + 9)))].toArray 153 (0, 0)), blk b23 (.cells [(.int .u64 (vget img l ((ifind (img.length : Int) gw gi gb n_).1 + 0))), (.int .u64 (vget img l ((ifind (img.length : Int) gw gi gb n_).1 + 1))), (.int .u64 (vget img l ((ifind (img.length : Int) gw gi gb n_).1 + 2))), (.int .u64 (vget img l ((ifind (img.length : Int) gw gi gb n_).1 + 3))), (.int .u64 (vget img l ((ifind (img.length : Int) gw gi gb n_).1 + 4))), (.int .u64 (vget img l ((ifind (img.length : Int) gw gi gb n_).1 + 5))), (.int .u64 (vget img l ((ifind (img.length : Int) gw gi gb n_).1 + 6))), (.int .u64 (vget img l ((ifind (img.length : Int) gw gi gb n_).1 + 7))), (.int .u64 (vget img l ((ifind (img.length : Int) gw gi gb n_).1 + 8))), (.int .u64 (vget img l ((ifind (img.length : Int) gw gi gb n_).1 + 9)))].toArray 188 (0, 0)), blk b4 (.cells [(.int .i64 gw), (.int .i64 gi), (.int .i64 gb)].toArray 31 (0, 0))] := hs152
   refine zE 1 (hK150 _ _ ?_)
   refine W.ret ?_
   have e_ : igetM img l gw gi gb n_ = (ndAt img l (ifind (img.length : Int) gw gi gb n_).1, 0) := by first | (exfalso; omega) | (simp only [igetM]; rw [if_pos (by assumption)]; exact if_pos (by assumption))
   have hs155 := St.tk0 hs154
   refine ret_of (.tuple #[(.agg #[(.int .u64 (vget img l ((ifind (img.length : Int) gw gi gb n_).1 + 0))), (.int .u64 (vget img l ((ifind (img.length : Int) gw gi gb n_).1 + 1))), (.int .u64 (vget img l ((ifind (img.length : Int) gw gi gb n_).1 + 2))), (.int .u64 (vget img l ((ifind (img.length : Int) gw gi gb n_).1 + 3))), (.int .u64 (vget img l ((ifind (img.length : Int) gw gi gb n_).1 + 4))), (.int .u64 (vget img l ((ifind (img.length : Int) gw gi gb n_).1 + 5))), (.int .u64 (vget img l ((ifind (img.length : Int) gw gi gb n_).1 + 6))), (.int .u64 (vget img l ((ifind (img.length : Int) gw gi gb n_).1 + 7))), (.int .u64 (vget img l ((ifind (img.length : Int) gw gi gb n_).1 + 8))), (.int .u64 (vget img l ((ifind (img.length : Int) gw gi gb n_).1 + 9)))]), (.int .i64 0)]) (results_cell2 (ad := ⟨b7, 0, none⟩) (cs := [(.int .u64 (vget img l ((ifind (img.length : Int) gw gi gb n_).1 + 0))), (.int .u64 (vget img l ((ifind (img.length : Int) gw gi gb n_).1 + 1))), (.int .u64 (vget img l ((ifind (img.length : Int) gw gi gb n_).1 + 2))), (.int .u64 (vget img l ((ifind (img.length : Int) gw gi gb n_).1 + 3))), (.int .u64 (vget img l ((ifind (img.length : Int) gw gi gb n_).1 + 4))), (.int .u64 (vget img l ((ifind (img.length : Int) gw gi gb n_).1 + 5))), (.int .u64 (vget img l ((ifind (img.length : Int) gw gi gb n_).1 + 6))), (.int .u64 (vget img l ((ifind (img.length : Int) gw gi gb n_).1 + 7))), (.int .u64 (vget img l ((ifind (img.length : Int) gw gi gb n_).1 + 8))), (.int .u64 (vget img l ((ifind (img.length : Int) gw gi gb n_).1 + 9)))]) rfl (by kernel_rfl) (by kernel_rfl) (by kernel_rfl) (cells_sub (hs154.heapAt 0 rfl) rfl)) ⟨_, ⟨by rw [e_]; try rfl, rfl⟩, hs155⟩

end Go.Proofs.YtmmclabkkigiaaaGreatDoor

namespace Go.Proofs.YtmmclabkkigiaaaGreatDoor
open Go Go.RowKit
set_option linter.unusedVariables false

section
variable {img : List Int} {l : List (Int × Int)} {at_ many : Int}
theorem word_cnt (hv : VR img l) {k : Nat} (hk : 64 * (k : Int) < many) : cnt (bitI (mwordAt img l at_ many k)) 64 = cnt (fun j => decide (((64 * k + j : Nat) : Int) < many) && mbits img l at_ (64 * k + j)) 64 :=
  cnt_congr fun j hj => by
    rw [bitI_word hv hj hk]
    congr 1
theorem mcount_ok (hv : VR img l) (ha : 0 ≤ at_ ∧ at_ ≤ 1000000000000) (hm : 1 ≤ many ∧ many ≤ 1000000000000) :
    mcount_M img l at_ many = some ((cnt (mbits img l at_) many.toNat : Nat) : Int) := by
  unfold mcount_M
  refine need_of (by omega) ?_
  obtain ⟨g, hg⟩ : ∃ g : Nat → Bool, g = fun (i : Nat) => decide ((i : Int) < many) && mbits img l at_ i := ⟨_, rfl⟩
  have key : ∀ (m k : Nat), k + m = nWords many → rounds (fun k_ c_ s_ => mcount_R19 img l at_ many k_ c_ s_) (fun s_ => mcount_D19 s_) m k ((cnt g (64 * k) : Nat) : Int) = some ((cnt g (64 * (nWords many)) : Nat) : Int) := by
    intro m
    induction m with
    | zero =>
      intro k hk
      have e : k = nWords many := by omega
      subst e
      rfl
    | succ m ih =>
      intro k hk
      have hlt : 64 * (k : Int) < many := by unfold nWords at hk; omega
      have hb := cnt_le g (64 * k)
      have hw := cnt_le (bitI (mwordAt img l at_ many k)) 64
      have hkm : k ≤ 1000000000000 := by omega
      show mcount_R19 img l at_ many k _ _ = _
      unfold mcount_R19
      refine bind_of rfl (bind_of (ones_ok (mwordAt_u64 hv)) (need_of (by omega) ?_))
      have e : ((cnt g (64 * k) : Nat) : Int) + ((cnt (bitI (mwordAt img l at_ many k)) 64 : Nat) : Int) = ((cnt g (64 * (k + 1)) : Nat) : Int) := by
        rw [show 64 * (k + 1) = 64 * k + 64 by omega, cnt_add, word_cnt hv hlt, hg]
        simp
      rw [e]
      exact ih (k + 1) (by omega)
  have h0 := key (nWords many) 0 (by omega)
  rw [show ((cnt g (64 * 0) : Nat) : Int) = 0 from rfl] at h0
  rw [h0]
  have e : 64 * nWords many = many.toNat + (64 * nWords many - many.toNat) := by unfold nWords; omega
  rw [e, cnt_add]
  have z : cnt (fun i => g (many.toNat + i)) (64 * nWords many - many.toNat) = 0 := cnt_none fun i _ => by rw [hg]; simp; omega
  have c : cnt g many.toNat = cnt (mbits img l at_) many.toNat := cnt_congr fun i hi => by
    rw [hg]
    simp only
    rw [decide_eq_true (by omega), Bool.true_and]
  rw [z, c]
  rfl

theorem ctz_bit {x : Nat} (h0 : x ≠ 0) (h : x < 2 ^ 64) : Lib.ctz 64 x < 64 ∧ x.testBit (Lib.ctz 64 x) = true ∧ ∀ j, j < Lib.ctz 64 x → x.testBit j = false := by
  unfold Lib.ctz
  rw [if_neg h0]
  obtain ⟨m, hm, hlt⟩ := Lib.ctzFrom_spec 64 x (by omega) h
  generalize Lib.ctzFrom 64 x = k at *
  subst hm
  refine ⟨hlt, ?_, fun j hj => ?_⟩
  · rw [Nat.mul_comm, Nat.testBit_mul_two_pow]; simp [Nat.testBit_zero]
  · rw [Nat.mul_comm, Nat.testBit_mul_two_pow]; simp; omega
theorem bitI_ones {j : Nat} (hj : j < 64) : bitI 18446744073709551615 j = true := by
  show (18446744073709551615 : Nat).testBit j = true
  rw [show (18446744073709551615 : Nat) = 2 ^ 64 - 1 from rfl, Nat.testBit_two_pow_sub_one]
  simpa using hj
theorem mclear_ok (hv : VR img l) (ha : 0 ≤ at_ ∧ at_ ≤ 1000000000000) (hm : 1 ≤ many ∧ many ≤ 1000000000000) :
    mclear_M img l at_ many = some (lst (mbits img l at_) many.toNat) := by
  unfold mclear_M
  refine need_of (by omega) ?_
  have key : ∀ (m k : Nat), k + m = nWords many → (∀ j, j < 64 * k → (j : Int) < many → mbits img l at_ j = true) → rounds (fun k_ c_ (s_ : Unit) => mclear_R26 img l at_ many k_ c_) (fun s_ => mclear_D26) m k () = some (lst (mbits img l at_) many.toNat) := by
    intro m
    induction m with
    | zero =>
      intro k hk hall
      show mclear_D26 = _
      unfold mclear_D26
      rw [lst_full fun j hj => hall j (by unfold nWords at hk; omega) (by omega)]
    | succ m ih =>
      intro k hk hall
      have hlt : 64 * (k : Int) < many := by unfold nWords at hk; omega
      have hkm : k ≤ 1000000000000 := by omega
      show mclear_R26 img l at_ many k _ = _
      unfold mclear_R26
      have hw := mwordAt_u64 (at_ := at_) (many := many) (k := k) hv
      obtain ⟨x, hx⟩ : ∃ x, bits .xor .u64 18446744073709551615 (mwordAt img l at_ many k) = x := ⟨_, rfl⟩
      have hxu : U64 x := by rw [← hx]; exact bits_u64 (by unfold U64; omega) hw
      have hbit : ∀ j, j < 64 → bitI x j = !(decide (64 * (k : Int) + j < many) && mbits img l at_ (64 * k + j)) := by
        intro j hj
        rw [← hx, bitI_xor (by unfold U64; omega) hw, bitI_ones hj, bitI_word hv hj hlt]
        simp
      refine bind_of rfl ?_
      rw [hx]
      have hxu' := hxu
      unfold U64 at hxu'
      have hc : Lib.ctz 64 x.toNat ≤ 64 := by
        by_cases h0 : x.toNat = 0
        · rw [h0]; exact Nat.le_refl _
        · exact Nat.le_of_lt (ctz_bit h0 (by omega)).1
      refine need_of (by omega) (need_of (by omega) (bind_of rfl (need_of (by omega) ?_)))
      have cont : (∀ j, j < 64 * (k + 1) → (j : Int) < many → mbits img l at_ j = true) → rounds (fun k_ c_ (s_ : Unit) => mclear_R26 img l at_ many k_ c_) (fun s_ => mclear_D26) m (k + 1) () = some (lst (mbits img l at_) many.toNat) := ih (k + 1) (by omega)
      by_cases h0 : x.toNat = 0
      · rw [h0, if_neg (by rw [show Lib.ctz 64 0 = 64 from rfl]; omega)]
        unfold mclear_J4
        rw [if_neg (by decide)]
        refine cont fun j hj hj2 => ?_
        by_cases hjk : j < 64 * k
        · exact hall j hjk hj2
        · have hb := hbit (j - 64 * k) (by omega)
          have hz : bitI x (j - 64 * k) = false := by unfold bitI; rw [h0]; simp
          rw [hz, decide_eq_true (by omega), Bool.true_and, show 64 * k + (j - 64 * k) = j by omega] at hb
          simpa using hb.symm
      · obtain ⟨c1, c2, c3⟩ := ctz_bit h0 (by omega)
        generalize Lib.ctz 64 x.toNat = c at *
        rw [if_pos (by omega)]
        have b1 : ∀ j, j < c → mbits img l at_ (64 * k + j) = true ∧ 64 * (k : Int) + j < many := by
          intro j hj
          have hb := hbit j (by omega)
          rw [show bitI x j = false from c3 j hj] at hb
          have hb' := hb.symm
          simp only [Bool.not_eq_false', Bool.and_eq_true, decide_eq_true_eq] at hb'
          exact ⟨hb'.2, hb'.1⟩
        have b2 := hbit c c1
        rw [show bitI x c = true from c2] at b2
        have hprev : ∀ j, j < 64 * k + c → (j : Int) < many → mbits img l at_ j = true := by
          intro j hj hj2
          by_cases hjk : j < 64 * k
          · exact hall j hjk hj2
          · have := (b1 (j - 64 * k) (by omega)).1
            rwa [show 64 * k + (j - 64 * k) = j by omega] at this
        unfold mclear_J4
        by_cases hr : 64 * (k : Int) + (c : Int) < many
        · rw [if_pos (decide_eq_true hr)]
          unfold mclear_X26
          have hf : mbits img l at_ (64 * k + c) = false := by
            rw [decide_eq_true hr, Bool.true_and] at b2
            simpa using b2.symm
          rw [lst_at (i := 64 * k + c) (by omega) hf (fun j hj => hprev j hj (by omega))]
          congr 2
        · rw [if_neg (by simpa using hr)]
          exact cont fun j hj hj2 => hprev j (by omega) hj2
  exact key (nWords many) 0 (by omega) (fun j hj => by omega)
end
end Go.Proofs.YtmmclabkkigiaaaGreatDoor

namespace Go.Proofs.YtmmclabkkigiaaaGreatDoor
open Go Go.RowKit
set_option linter.unusedVariables false

def gb (img : List Int) (l : List (Int × Int)) (i : Nat) : Bool := bitI (vget img l ((i / 64 : Nat) : Int)) (i % 64)
theorem nodup_len : ∀ (n : Nat) (xs : List Int), xs.Nodup → (∀ x ∈ xs, 0 ≤ x ∧ x < (n : Int)) → xs.length ≤ n
  | 0, xs, _, h => by
    cases xs with
    | nil => simp
    | cons x xs => have := h x (by simp); omega
  | n + 1, xs, hn, h => by
    have h2 := nodup_len n (xs.erase (n : Int)) (hn.erase _) (fun x hx => by
      have h3 := h x (List.mem_of_mem_erase hx)
      have h4 : x ≠ (n : Int) := fun e => by subst e; exact absurd hx (hn.not_mem_erase)
      omega)
    have h5 := List.length_erase (a := (n : Int)) (l := xs)
    split at h5 <;> omega
theorem VOk.len {img : List Int} {l : List (Int × Int)} (h : VOk img l) : l.length ≤ img.length := by
  have h1 := nodup_len img.length (l.map (fun p : Int × Int => p.1)) h.keys (fun x hx => by
    obtain ⟨p, hp, rfl⟩ := List.mem_map.1 hx
    exact h.inside p hp)
  simpa using h1
end Go.Proofs.YtmmclabkkigiaaaGreatDoor

set_option maxRecDepth 20000
namespace Go.Proofs.YtmmclabkkigiaaaGreatDoor
open Go Go.RowKit
set_option linter.unusedSimpArgs false
set_option linter.unusedVariables false

theorem blockat_spec {gw gi gb n_ : Int} (B : Nat) (w : World) : Spec Tryz.prog 59 #[(.agg #[(.int .i64 gw), (.int .i64 gi), (.int .i64 gb)]), (.int .i64 n_)] B w [] (fun v H' => v = .int .i64 (placeOf 9 gw gi gb n_) ∧ H' = []) := by
 refine spec_Q Tryz.func59 rfl fun hs => ?_
 refine W.sr fun K1 hK1 => ?_
 refine zN [(.int .i64 gw), (.int .i64 gi), (.int .i64 gb)] 31 hs fun b4 w2 hs3 => ?_
 refine zE 1 (hK1 _ _ ?_)
 refine W.sr fun K5 hK5 => ?_
 refine ops_R (runs_loadAgg (ad := ⟨b4, 0, none⟩) (cs := [(.int .i64 gw), (.int .i64 gi), (.int .i64 gb)]) (by kernel_rfl) (cells_sub (hs3.heapAt 0 rfl) rfl)) ?_
 refine zR 1 ?_
 refine zC00 hs3 (place9_spec (gw := gw) (gi := gi) (gb := gb) (n_ := n_) B _) fun w6 hs8 => ?_
 refine zE 1 (hK5 _ _ ?_)
 refine W.ret ?_
 have hs9 := St.tk0 hs8
 refine ret_of (.int .i64 (placeOf 9 gw gi gb n_)) (by kernel_rfl) ⟨_, ⟨rfl, rfl⟩, hs9⟩

theorem lmap6_spec {gw gi gb : Int} (B : Nat) (w : World) : Spec Tryz.prog 136 #[(.agg #[(.int .i64 gw), (.int .i64 gi), (.int .i64 gb)])] B w [] (fun v H' => v = .int .i64 (placeOf 6 gw gi gb 0) ∧ H' = []) := by
 refine spec_Q Tryz.func136 rfl fun hs => ?_
 refine W.sr fun K1 hK1 => ?_
 refine zN [(.int .i64 gw), (.int .i64 gi), (.int .i64 gb)] 31 hs fun b4 w2 hs3 => ?_
 refine zE 1 (hK1 _ _ ?_)
 refine W.sr fun K5 hK5 => ?_
 refine ops_R (runs_loadAgg (ad := ⟨b4, 0, none⟩) (cs := [(.int .i64 gw), (.int .i64 gi), (.int .i64 gb)]) (by kernel_rfl) (cells_sub (hs3.heapAt 0 rfl) rfl)) ?_
 refine zC00 hs3 (place6_spec (gw := gw) (gi := gi) (gb := gb) (n_ := 0) B _) fun w6 hs8 => ?_
 refine zE 1 (hK5 _ _ ?_)
 refine W.ret ?_
 have hs9 := St.tk0 hs8
 refine ret_of (.int .i64 (placeOf 6 gw gi gb 0)) (by kernel_rfl) ⟨_, ⟨rfl, rfl⟩, hs9⟩

theorem lmap7_spec {gw gi gb : Int} (B : Nat) (w : World) : Spec Tryz.prog 137 #[(.agg #[(.int .i64 gw), (.int .i64 gi), (.int .i64 gb)])] B w [] (fun v H' => v = .int .i64 (placeOf 7 gw gi gb 0) ∧ H' = []) := by
 refine spec_Q Tryz.func137 rfl fun hs => ?_
 refine W.sr fun K1 hK1 => ?_
 refine zN [(.int .i64 gw), (.int .i64 gi), (.int .i64 gb)] 31 hs fun b4 w2 hs3 => ?_
 refine zE 1 (hK1 _ _ ?_)
 refine W.sr fun K5 hK5 => ?_
 refine ops_R (runs_loadAgg (ad := ⟨b4, 0, none⟩) (cs := [(.int .i64 gw), (.int .i64 gi), (.int .i64 gb)]) (by kernel_rfl) (cells_sub (hs3.heapAt 0 rfl) rfl)) ?_
 refine zC00 hs3 (place7_spec (gw := gw) (gi := gi) (gb := gb) (n_ := 0) B _) fun w6 hs8 => ?_
 refine zE 1 (hK5 _ _ ?_)
 refine W.ret ?_
 have hs9 := St.tk0 hs8
 refine ret_of (.int .i64 (placeOf 7 gw gi gb 0)) (by kernel_rfl) ⟨_, ⟨rfl, rfl⟩, hs9⟩

end Go.Proofs.YtmmclabkkigiaaaGreatDoor

set_option linter.unusedVariables false
set_option maxRecDepth 20000
namespace Go.Proofs.YtmmclabkkigiaaaGreatDoor
open Go Go.RowKit
set_option linter.unusedSimpArgs false
set_option linter.unusedVariables false

def pfree_M (img : List Int) (l : List (Int × Int)) (at_ : Int) (many : Int) (pm : Int) : Option (Int) :=
 (mcount_M img l at_ many).bind fun r7 =>
need (-9223372036854775808 ≤ (pm - r7) ∧ (pm - r7) ≤ 9223372036854775807) <|
some (pm - r7)

theorem pfree_walk {img : List Int} {l : List (Int × Int)} {at_ : Int} {many : Int} {pm : Int} {mb vb : Nat} {r : Int} (B : Nat) (w : World) (hmb : w.heap[mb]? = some (.cells [(.pointer (some ⟨vb, 0, none⟩)), (.int .i64 at_), (.int .i64 many)].toArray 213 (0, 0))) (hv : ViewAt (ptr vb) img l w) (hm : pfree_M img l at_ many pm = some r) : Spec Tryz.prog 138 #[(.agg #[(.pointer (some ⟨mb, 0, none⟩)), (.int .i64 pm)])] B w [] (fun v H' => v = .int .i64 r ∧ H' = []) := by
 refine spec_Q Tryz.func138 rfl fun hs => ?_
 unfold pfree_M at hm
 refine W.sr fun K1 hK1 => ?_
 refine zN [(.pointer (some ⟨mb, 0, none⟩)), (.int .i64 pm)] 206 hs fun b4 w2 hs3 => ?_
 refine zE 1 (hK1 _ _ ?_)
 refine W.seq fun K5 hK5 => ?_
 have hs6 := hs3.drew
 refine W.regionD [(0, 0), (1, 1), (0, 0), (4, 4), (8, 8), (18, 18), (63, 32)] (fun w_ => St B w [] w_ [blk b4 (.cells [(.pointer (some ⟨mb, 0, none⟩)), (.int .i64 pm)].toArray 206 (0, 0))]) (by kernel_rfl) hs6 ?_
 refine any_val (v := (.pointer (some ⟨b4, 1, none⟩))) (v' := (.pointer (some ⟨b4, 1, none⟩))) 0 (by kernel_rfl) (fun _ => by kernel_rfl) rfl hs6 ?_
 refine any_R 1 (by kernel_rfl) (fun _ hS_ => runs_load (ad := ⟨b4, 1, none⟩) (v := (.int .i64 pm)) (by kernel_rfl) (hS_.cellAt 0 rfl rfl)) hs6 ?_
 refine any_val (v := (.pointer (some ⟨b4, 0, none⟩))) (v' := (.pointer (some ⟨b4, 0, none⟩))) 2 (by kernel_rfl) (fun _ => by kernel_rfl) rfl hs6 ?_
 refine any_R 3 (by kernel_rfl) (fun _ hS_ => runs_load (ad := ⟨b4, 0, none⟩) (v := (.pointer (some ⟨mb, 0, none⟩))) (by kernel_rfl) (hS_.cellAt 0 rfl rfl)) hs6 ?_
 refine any_step 4 (by kernel_rfl) (by kernel_rfl) ?_
 obtain ⟨r7, h8, hm⟩ := bind_some hm
 refine zC00 hs6 (mcount_walk (hmb := (hs6.old hmb)) (hv := (viewAt_old hs6 hv)) (hm := h8) B _) fun w9 hs11 => ?_
 refine ops_done (by kernel_rfl) ⟨hs11, ?_⟩
 obtain ⟨h12, hm⟩ := need_some hm
 refine any_val (v := .int .i64 (IntKind.i64.wrap (pm - r7))) (v' := .int .i64 (pm - r7)) 5 (by kernel_rfl) (fun _ => by kernel_rfl) (congrArg (Value.int .i64) (wrap_i64 h12.1 h12.2)) hs11 ?_
 refine any_val (v := (.int .i64 (pm - r7))) (v' := (.int .i64 (pm - r7))) 6 (by kernel_rfl) (fun _ => by kernel_rfl) rfl hs11 ?_
 refine any_done (by kernel_rfl) ?_
 refine hK5 _ _ ?_
 refine W.ret ?_
 obtain rfl := some_inj hm
 have hs13 := St.tk0 hs11
 refine ret_of (.int .i64 (pm - r7)) (by kernel_rfl) ⟨_, ⟨rfl, rfl⟩, hs13⟩

def pgive_J1 (img : List Int) (l : List (Int × Int)) (at_ : Int) (many : Int) (n_ : Int) (p6 : Bool) : Option (Int × List (Int × Int)) :=
 if p6 = true then (some (1, l)) else ((mget_M img l at_ many n_).bind fun r14 =>
if r14 = true then ((mset_M img l at_ many n_ false).bind fun r21 =>
some (r21.1, r21.2)) else (some (3, l)))

def pgive_M (img : List Int) (l : List (Int × Int)) (at_ : Int) (many : Int) (pm : Int) (n_ : Int) : Option (Int × List (Int × Int)) :=
 if n_ < 1 then (pgive_J1 img l at_ many n_ (decide (n_ < 1))) else (pgive_J1 img l at_ many n_ (decide (n_ ≥ pm)))

theorem pgive_walk {img : List Int} {l : List (Int × Int)} {at_ : Int} {many : Int} {pm : Int} {n_ : Int} {mb vb : Nat} {r : Int × List (Int × Int)} (B : Nat) (w : World) (hm : pgive_M img l at_ many pm n_ = some r) : Spec Tryz.prog 140 #[(.agg #[(.pointer (some ⟨mb, 0, none⟩)), (.int .i64 pm)]), (.int .i64 n_)] B w [blk mb (.cells [(.pointer (some ⟨vb, 0, none⟩)), (.int .i64 at_), (.int .i64 many)].toArray 213 (0, 0)), viewA (ptr vb) img l] (fun v H' => v = .int .i64 r.1 ∧ H' = [blk mb (.cells [(.pointer (some ⟨vb, 0, none⟩)), (.int .i64 at_), (.int .i64 many)].toArray 213 (0, 0)), viewA (ptr vb) img r.2]) := by
 refine spec_W Tryz.func140 rfl fun l0 hs => ?_
 unfold pgive_M at hm
 refine W.sr fun K1 hK1 => ?_
 refine zN [(.pointer (some ⟨mb, 0, none⟩)), (.int .i64 pm)] 206 hs fun b4 w2 hs3 => ?_
 refine zE 1 (hK1 _ _ ?_)
 refine W.seq fun K5 hK5 => ?_
 refine W.block ?_
 refine W.seq_join (fun s_ w_ => ∃ (p6 : Bool), (∃ us, s_ = slots 22 [(1, (.int .i64 n_)), (2, (.pointer (some ⟨b4, 0, none⟩))), (5, (.bool p6))] us) ∧ St B w l0 w_ [viewA (ptr vb) img l, blk mb (.cells [(.pointer (some ⟨vb, 0, none⟩)), (.int .i64 at_), (.int .i64 many)].toArray 213 (0, 0)), blk b4 (.cells [(.pointer (some ⟨mb, 0, none⟩)), (.int .i64 pm)].toArray 206 (0, 0))] ∧ pgive_J1 img l at_ many n_ p6 = some r) ?_ ?_
 ·
  rintro _ w7 ⟨p6, ⟨us, rfl⟩, hs8, hm⟩
  unfold pgive_J1 at hm
  refine W.cond p6 (by kernel_rfl) (fun h9 => ?_) (fun h9 => ?_)
  ·
   have h9p : p6 = true := h9
   replace hm := ite_yes hm h9p
   refine W.sr fun K10 hK10 => ?_
   refine zE 1 (hK10 _ _ ?_)
   refine W.ret (ret_block (ret_seq ?_))
   obtain rfl := some_inj hm
   have hs11 := St.f1 hs8
   have hs12 := St.tk2 hs11
   refine ret_of (.int .i64 1) (by kernel_rfl) ⟨_, ⟨rfl, rfl⟩, hs12⟩
  ·
   have h9p : ¬ (p6 = true) := ne_true_of_eq_false h9
   replace hm := ite_no hm h9p
   refine W.sr fun K13 hK13 => ?_
   refine zR 1 ?_
   refine zL ⟨b4, 0, none⟩ (.pointer (some ⟨mb, 0, none⟩)) (hs8.cellAt 2 rfl rfl) ?_
   refine zR 1 ?_
   obtain ⟨r14, h15, hm⟩ := bind_some hm
   refine zC00 hs8 (mget_walk (hmb := (hs8.heapAt 1 rfl)) (hv := (hs8.entAt 0 rfl viewA_at)) (hm := h15) B _) fun w16 hs18 => ?_
   refine zE 2 (hK13 _ _ ?_)
   refine W.cond (!r14) (by kernel_rfl) (fun h19 => ?_) (fun h19 => ?_)
   rotate_left
   ·
    have h19p : r14 = true := (bnot_false h19)
    replace hm := ite_yes hm h19p
    refine W.skip ?_
    refine normal_block ?_
    refine hK5 _ _ ?_
    refine W.sr fun K20 hK20 => ?_
    refine zR 1 ?_
    refine zL ⟨b4, 0, none⟩ (.pointer (some ⟨mb, 0, none⟩)) (hs18.cellAt 2 rfl rfl) ?_
    refine zR 1 ?_
    obtain ⟨r21, h22, hm⟩ := bind_some hm
    have hs23 := St.f1 hs18
    refine zC22 hs23 (mset_walk (hm := h22) B _) fun w24 hs26 => ?_
    refine zE 1 (hK20 _ _ ?_)
    refine W.ret ?_
    obtain rfl := some_inj hm
    have hs27 := St.f1 hs26
    have hs28 := St.f1 hs27
    have hs29 := St.tk2 hs28
    refine ret_of (.int .i64 r21.1) (by kernel_rfl) ⟨_, ⟨rfl, rfl⟩, hs29⟩
   ·
    have h19p : ¬ (r14 = true) := ne_true_of_eq_false (bnot_true h19)
    replace hm := ite_no hm h19p
    refine W.sr fun K30 hK30 => ?_
    refine zE 1 (hK30 _ _ ?_)
    refine W.ret (ret_block (ret_seq ?_))
    obtain rfl := some_inj hm
    have hs31 := St.f1 hs18
    have hs32 := St.tk2 hs31
    refine ret_of (.int .i64 3) (by kernel_rfl) ⟨_, ⟨rfl, rfl⟩, hs32⟩
 ·
  refine W.sr fun K33 hK33 => ?_
  refine zE 3 (hK33 _ _ ?_)
  refine W.cond (decide (n_ < 1)) (by kernel_rfl) (fun h34 => ?_) (fun h34 => ?_)
  ·
   obtain ⟨h34p, hm⟩ := iY hm h34
   refine W.skip ?_
   have hs35 := St.f1 hs3
   have hs36 := St.f2 hs35
   exact ⟨(decide (n_ < 1)), slots_intro _ (by kernel_rfl), hs36, hm⟩
  ·
   obtain ⟨h34p, hm⟩ := iN hm h34
   refine W.region ?_
   refine zR 2 ?_
   refine zL ⟨b4, 1, none⟩ (.int .i64 pm) (hs3.cellAt 0 rfl rfl) ?_
   refine zE 2 ?_
   have hs37 := St.f1 hs3
   have hs38 := St.f2 hs37
   exact ⟨(decide (n_ ≥ pm)), slots_intro _ (by kernel_rfl), hs38, hm⟩

def aclear_B0 (img : List Int) (ns : List Int) (k6 : ((List (Int × Int)) × Int) → Option (Int × List (Int × Int))) (l4 : List (Int × Int)) (p5 : Int) : Option (Int × List (Int × Int)) :=
 if p5 < (ns.length : Int) then (need (0 ≤ p5 ∧ p5 < (ns.length : Int)) <|
(some (vput img l4 (ns.getD p5.toNat 0) 0)).bind fun r21 =>
if r21.1 = 0 then (need (-9223372036854775808 ≤ (p5 + 1) ∧ (p5 + 1) ≤ 9223372036854775807) <|
k6 (r21.2, (p5 + 1))) else (some (r21.1, r21.2))) else (some (0, l4))

def aclear_M (img : List Int) (l : List (Int × Int)) (ns : List Int) : Option (Int × List (Int × Int)) :=
 iter (fun k_ s_ => aclear_B0 img ns k_ s_.1 s_.2) FUEL (l, 0)

theorem aclear_walk {img : List Int} {l : List (Int × Int)} {gw : Int} {gi : Int} {gb : Int} {ns : List Int} {ab ib bb vb : Nat} {wa : Option Addr} {wc : Nat} {r : Int × List (Int × Int)} (B : Nat) (w : World) (hm : aclear_M img l ns = some r) : Spec Tryz.prog 154 #[(.pointer (some ⟨ab, 0, none⟩)), (.slice wa ns.length wc)] B w [blk ab (.cells [(.pointer (some ⟨vb, 0, none⟩)), (.int .i64 gw), (.int .i64 gi), (.int .i64 gb), (.pointer (some ⟨ib, 0, none⟩)), (.int .i64 gi), (.pointer (some ⟨bb, 0, none⟩)), (.int .i64 gb)].toArray 208 (0, 0)), kInt.row wa wc ns, viewA (ptr vb) img l] (fun v H' => v = .int .i64 r.1 ∧ H' = [blk ab (.cells [(.pointer (some ⟨vb, 0, none⟩)), (.int .i64 gw), (.int .i64 gi), (.int .i64 gb), (.pointer (some ⟨ib, 0, none⟩)), (.int .i64 gi), (.pointer (some ⟨bb, 0, none⟩)), (.int .i64 gb)].toArray 208 (0, 0)), kInt.row wa wc ns, viewA (ptr vb) img r.2]) := by
 refine spec_W Tryz.func154 rfl fun l0 hs => ?_
 unfold aclear_M at hm
 refine W.sr fun K1 hK1 => ?_
 refine zE 1 (hK1 _ _ ?_)
 refine W.seq fun K2 hK2 => ?_
 refine W.sr fun K3 hK3 => ?_
 refine zE 3 (hK3 _ _ ?_)
 refine W.block ?_
 have hs10 := St.f1 hs
 have hs11 := St.f1 hs10
 have hs12 := St.f2 hs11
 refine W.loop_iter (G := (List (Int × Int)) × Int) (σ := (List (Int × Int)) × Int) (fun | (l4, p5) => (l4, p5)) (fun | (l4, p5), s_, w_ => (∃ us, s_ = slots 24 [(0, (.pointer (some ⟨ab, 0, none⟩))), (8, (.slice wa ns.length wc)), (9, (.int .i64 (ns.length : Int))), (10, (.int .i64 p5))] us) ∧ St B w l0 w_ [viewA (ptr vb) img l4, blk ab (.cells [(.pointer (some ⟨vb, 0, none⟩)), (.int .i64 gw), (.int .i64 gi), (.int .i64 gb), (.pointer (some ⟨ib, 0, none⟩)), (.int .i64 gi), (.pointer (some ⟨bb, 0, none⟩)), (.int .i64 gb)].toArray 208 (0, 0)), kInt.row wa wc ns]) (l, 0) ⟨slots_intro _ (by kernel_rfl), hs12⟩ hm ?_
 rintro k6 ih7 ⟨l4, p5⟩ _ w8 ⟨⟨us, rfl⟩, hs9⟩ hm
 replace hm : aclear_B0 img ns k6 l4 p5 = some r := hm
 unfold aclear_B0 at hm
 refine W.sr fun K13 hK13 => ?_
 refine zE 1 (hK13 _ _ ?_)
 refine W.seq fun K14 hK14 => ?_
 refine W.cond (decide (p5 < (ns.length : Int))) (by kernel_rfl) (fun h15 => ?_) (fun h15 => ?_)
 ·
  obtain ⟨h15p, hm⟩ := iY hm h15
  refine W.skip ?_
  refine hK14 _ _ ?_
  refine W.seq fun K16 hK16 => ?_
  refine W.block ?_
  refine W.sr fun K17 hK17 => ?_
  obtain ⟨h19, hm⟩ := need_some hm
  have hk18 := lt_toNat h19
  refine ops_R (runs_index (a := wa) (n := ns.length) (z := p5) (size := 1) p5.toNat (nat_of h19.1) hk18 (kInt.addr (St.kcells kInt hs9 2 rfl) hk18) (by kernel_rfl)) ?_
  refine zL ((adr wa (p5.toNat * 1)).add 0) (.int .i64 (ns.getD p5.toNat 0)) (kInt.at (St.kcells kInt hs9 2 rfl) hk18 0 0 rfl) ?_
  refine zE 1 (hK17 _ _ ?_)
  refine W.sr fun K20 hK20 => ?_
  refine zR 3 ?_
  refine zL ⟨ab, 0, none⟩ (.pointer (some ⟨vb, 0, none⟩)) (hs9.cellAt 1 rfl rfl) ?_
  refine zR 1 ?_
  obtain ⟨r21, h22, hm⟩ := bind_some hm
  replace h22 := some_inj h22
  refine ops_call1 hs9 (by kernel_rfl) (put_spec (p := (.pointer (some ⟨vb, 0, none⟩))) (img := img) (l := l4) (at_ := (ns.getD p5.toNat 0)) (x_ := 0) B _) ?_
  rintro _ _ w25 ⟨hv23, hH24⟩ hs26
  rw [h22] at hv23
  try rw [h22] at hH24
  subst hv23 hH24
  have hs27 := St.ap1 hs26
  refine zE 1 (hK20 _ _ ?_)
  refine W.sr fun K28 hK28 => ?_
  refine zE 2 (hK28 _ _ ?_)
  refine W.cond (!decide (r21.1 = 0)) (by kernel_rfl) (fun h29 => ?_) (fun h29 => ?_)
  rotate_left
  ·
   have h29p : r21.1 = 0 := of_decide_eq_true (bnot_false h29)
   replace hm := ite_yes hm h29p
   refine W.skip ?_
   refine normal_block ?_
   refine hK16 _ _ ?_
   refine W.region ?_
   obtain ⟨h30, hm⟩ := need_some hm
   refine zI _ (wrap_i64 h30.1 h30.2) ?_
   refine zE 1 ?_
   refine loopAt_next ?_
   exact ih7 (r21.2, (p5 + 1)) _ _ ⟨slots_intro _ (by kernel_rfl), hs27⟩ hm
  ·
   have h29p : ¬ (r21.1 = 0) := of_decide_eq_false (bnot_true h29)
   replace hm := ite_no hm h29p
   refine W.sr fun K31 hK31 => ?_
   refine zE 2 (hK31 _ _ ?_)
   refine W.ret (ret_block (ret_seq (ret_seq (ret_block (ret_seq ?_)))))
   obtain rfl := some_inj hm
   have hs32 := St.f2 hs27
   have hs33 := St.f2 hs32
   refine ret_of (.int .i64 r21.1) (by kernel_rfl) ⟨_, ⟨rfl, rfl⟩, hs33⟩
 ·
  obtain ⟨h15p, hm⟩ := iN hm h15
  refine W.exit (exit_seq (exit_seq (exit_here ?_)))
  refine hK2 _ _ ?_
  refine W.sr fun K34 hK34 => ?_
  refine zE 1 (hK34 _ _ ?_)
  refine W.ret ?_
  obtain rfl := some_inj hm
  have hs35 := St.f2 hs9
  have hs36 := St.f2 hs35
  refine ret_of (.int .i64 0) (by kernel_rfl) ⟨_, ⟨rfl, rfl⟩, hs36⟩

end Go.Proofs.YtmmclabkkigiaaaGreatDoor

set_option maxRecDepth 20000
namespace Go.Proofs.YtmmclabkkigiaaaGreatDoor
open Go Go.RowKit
set_option linter.unusedSimpArgs false
set_option linter.unusedVariables false

theorem own_spec {ab cb vb ib bb : Nat} {gw gi gb n_ : Int} (B : Nat) (w : World) (hpl : -1000000 ≤ (placeOf 9 gw gi gb n_) ∧ (placeOf 9 gw gi gb n_) ≤ 1000000) (hcb : w.heap[cb]? = some (.cells [(.pointer (some ⟨ab, 0, none⟩))].toArray 192 (0, 0))) (hab : w.heap[ab]? = some (.cells [(.pointer (some ⟨vb, 0, none⟩)), (.int .i64 gw), (.int .i64 gi), (.int .i64 gb), (.pointer (some ⟨ib, 0, none⟩)), (.int .i64 gi), (.pointer (some ⟨bb, 0, none⟩)), (.int .i64 gb)].toArray 208 (0, 0))) : Spec Tryz.prog 147 #[(.int .i64 n_), (.pointer (some ⟨cb, 0, none⟩))] B w [] (fun v H' => ∃ a' c', v = .slice a' 8 c' ∧ H' = [kInt.row a' c' [((placeOf 9 gw gi gb n_) + 0), ((placeOf 9 gw gi gb n_) + 1), ((placeOf 9 gw gi gb n_) + 2), ((placeOf 9 gw gi gb n_) + 3), ((placeOf 9 gw gi gb n_) + 4), ((placeOf 9 gw gi gb n_) + 5), ((placeOf 9 gw gi gb n_) + 6), ((placeOf 9 gw gi gb n_) + 7)]]) := by
 refine spec_Q Tryz.func147 rfl fun hs => ?_
 refine W.sr fun K1 hK1 => ?_
 refine zE 1 (hK1 _ _ ?_)
 refine W.sr fun K2 hK2 => ?_
 refine zL ⟨cb, 0, none⟩ (.pointer (some ⟨ab, 0, none⟩)) (cell_of_blk (hs.old hcb) rfl) ?_
 refine zR 2 ?_
 refine ops_R (runs_loadAgg (ad := ⟨ab, 1, none⟩) (cs := [(.int .i64 gw), (.int .i64 gi), (.int .i64 gb)]) (by kernel_rfl) (cells_sub (hs.old hab) rfl)) ?_
 refine zR 1 ?_
 refine zC00 hs (blockat_spec (gw := gw) (gi := gi) (gb := gb) (n_ := n_) B _) fun w3 hs5 => ?_
 refine zE 1 (hK2 _ _ ?_)
 refine W.seq fun K6 hK6 => ?_
 refine W.sr fun K7 hK7 => ?_
 refine zE 1 (hK7 _ _ ?_)
 refine W.block ?_
 refine W.loop_start ?_
 refine loopAt_round ?_
 refine W.sr fun K8 hK8 => ?_
 refine zE 1 (hK8 _ _ ?_)
 refine W.seq fun K9 hK9 => ?_
 refine W.cond_true true (by kernel_rfl) rfl ?_
 refine W.skip ?_
 refine hK9 _ _ ?_
 refine W.seq fun K10 hK10 => ?_
 refine W.block ?_
 refine W.sr fun K11 hK11 => ?_
 refine zE 2 (hK11 _ _ ?_)
 refine W.region ?_
 refine zR 3 ?_
 have h12 : -9223372036854775808 ≤ ((placeOf 9 gw gi gb n_) + 0) ∧ ((placeOf 9 gw gi gb n_) + 0) ≤ 9223372036854775807 := by omega
 refine zI _ (wrap_i64 h12.1 h12.2) ?_
 refine ops_new (fun b => .slice (some ⟨b, 0, none⟩) 1 1) (.cells [(.int .i64 ((placeOf 9 gw gi gb n_) + 0))].toArray 3 (0, 0)) hs5 (by kernel_rfl) (fun b15 w13 hs14 => ?_)
 have hs16 := St.knil kInt hs14
 refine ops_appendK kInt (bytes := 8) (a' := (some ⟨b15, 0, none⟩)) (c' := 1) (l := []) (m := [((placeOf 9 gw gi gb n_) + 0)]) hs16 (by kernel_rfl) (by simp) (cells_blk (hs16.heapAt 1 rfl)) (by (unfold maxLen; try simp) <;> (simp only [List.length_cons, List.length_nil]; omega)) (by (try simp) <;> (simp only [List.length_cons, List.length_nil]; omega)) (fun a17 c18 w19 hs20 => ?_)
 have hs21 : St B w [] w19 [kInt.row a17 c18 ([((placeOf 9 gw gi gb n_) + 0)]), blk b15 (.cells [(.int .i64 ((placeOf 9 gw gi gb n_) + 0))].toArray 3 (0, 0))] := hs20
 refine zE 1 ?_
 refine normal_block ?_
 refine hK10 _ _ ?_
 refine W.region ?_
 refine zE 2 ?_
 refine loopAt_next ?_
 refine loopAt_round ?_
 refine W.sr fun K22 hK22 => ?_
 refine zE 1 (hK22 _ _ ?_)
 refine W.seq fun K23 hK23 => ?_
 refine W.cond_true true (by kernel_rfl) rfl ?_
 refine W.skip ?_
 refine hK23 _ _ ?_
 refine W.seq fun K24 hK24 => ?_
 refine W.block ?_
 refine W.sr fun K25 hK25 => ?_
 refine zE 2 (hK25 _ _ ?_)
 refine W.region ?_
 refine zR 3 ?_
 have h26 : -9223372036854775808 ≤ ((placeOf 9 gw gi gb n_) + 1) ∧ ((placeOf 9 gw gi gb n_) + 1) ≤ 9223372036854775807 := by omega
 refine zI _ (wrap_i64 h26.1 h26.2) ?_
 refine ops_new (fun b => .slice (some ⟨b, 0, none⟩) 1 1) (.cells [(.int .i64 ((placeOf 9 gw gi gb n_) + 1))].toArray 3 (0, 0)) hs21 (by kernel_rfl) (fun b29 w27 hs28 => ?_)
 have hs30 := St.f1 hs28
 refine ops_appendK kInt (bytes := 8) (a' := (some ⟨b29, 0, none⟩)) (c' := 1) (l := [((placeOf 9 gw gi gb n_) + 0)]) (m := [((placeOf 9 gw gi gb n_) + 1)]) hs30 (by kernel_rfl) (by simp) (cells_blk (hs30.heapAt 1 rfl)) (by (unfold maxLen; try simp) <;> (simp only [List.length_cons, List.length_nil]; omega)) (by (try simp) <;> (simp only [List.length_cons, List.length_nil]; omega)) (fun a31 c32 w33 hs34 => ?_)
 have hs35 : St B w [] w33 [kInt.row a31 c32 ([((placeOf 9 gw gi gb n_) + 0), ((placeOf 9 gw gi gb n_) + 1)]), blk b29 (.cells [(.int .i64 ((placeOf 9 gw gi gb n_) + 1))].toArray 3 (0, 0)), blk b15 (.cells [(.int .i64 ((placeOf 9 gw gi gb n_) + 0))].toArray 3 (0, 0))] := hs34
 refine zE 1 ?_
 refine normal_block ?_
 refine hK24 _ _ ?_
 refine W.region ?_
 refine zE 2 ?_
 refine loopAt_next ?_
 refine loopAt_round ?_
 refine W.sr fun K36 hK36 => ?_
 refine zE 1 (hK36 _ _ ?_)
 refine W.seq fun K37 hK37 => ?_
 refine W.cond_true true (by kernel_rfl) rfl ?_
 refine W.skip ?_
 refine hK37 _ _ ?_
 refine W.seq fun K38 hK38 => ?_
 refine W.block ?_
 refine W.sr fun K39 hK39 => ?_
 refine zE 2 (hK39 _ _ ?_)
 refine W.region ?_
 refine zR 3 ?_
 have h40 : -9223372036854775808 ≤ ((placeOf 9 gw gi gb n_) + 2) ∧ ((placeOf 9 gw gi gb n_) + 2) ≤ 9223372036854775807 := by omega
 refine zI _ (wrap_i64 h40.1 h40.2) ?_
 refine ops_new (fun b => .slice (some ⟨b, 0, none⟩) 1 1) (.cells [(.int .i64 ((placeOf 9 gw gi gb n_) + 2))].toArray 3 (0, 0)) hs35 (by kernel_rfl) (fun b43 w41 hs42 => ?_)
 have hs44 := St.f1 hs42
 refine ops_appendK kInt (bytes := 8) (a' := (some ⟨b43, 0, none⟩)) (c' := 1) (l := [((placeOf 9 gw gi gb n_) + 0), ((placeOf 9 gw gi gb n_) + 1)]) (m := [((placeOf 9 gw gi gb n_) + 2)]) hs44 (by kernel_rfl) (by simp) (cells_blk (hs44.heapAt 1 rfl)) (by (unfold maxLen; try simp) <;> (simp only [List.length_cons, List.length_nil]; omega)) (by (try simp) <;> (simp only [List.length_cons, List.length_nil]; omega)) (fun a45 c46 w47 hs48 => ?_)
 have hs49 : St B w [] w47 [kInt.row a45 c46 ([((placeOf 9 gw gi gb n_) + 0), ((placeOf 9 gw gi gb n_) + 1), ((placeOf 9 gw gi gb n_) + 2)]), blk b43 (.cells [(.int .i64 ((placeOf 9 gw gi gb n_) + 2))].toArray 3 (0, 0)), blk b29 (.cells [(.int .i64 ((placeOf 9 gw gi gb n_) + 1))].toArray 3 (0, 0)), blk b15 (.cells [(.int .i64 ((placeOf 9 gw gi gb n_) + 0))].toArray 3 (0, 0))] := hs48
 refine zE 1 ?_
 refine normal_block ?_
 refine hK38 _ _ ?_
 refine W.region ?_
 refine zE 2 ?_
 refine loopAt_next ?_
 refine loopAt_round ?_
 refine W.sr fun K50 hK50 => ?_
 refine zE 1 (hK50 _ _ ?_)
 refine W.seq fun K51 hK51 => ?_
 refine W.cond_true true (by kernel_rfl) rfl ?_
 refine W.skip ?_
 refine hK51 _ _ ?_
 refine W.seq fun K52 hK52 => ?_
 refine W.block ?_
 refine W.sr fun K53 hK53 => ?_
 refine zE 2 (hK53 _ _ ?_)
 refine W.region ?_
 refine zR 3 ?_
 have h54 : -9223372036854775808 ≤ ((placeOf 9 gw gi gb n_) + 3) ∧ ((placeOf 9 gw gi gb n_) + 3) ≤ 9223372036854775807 := by omega
 refine zI _ (wrap_i64 h54.1 h54.2) ?_
 refine ops_new (fun b => .slice (some ⟨b, 0, none⟩) 1 1) (.cells [(.int .i64 ((placeOf 9 gw gi gb n_) + 3))].toArray 3 (0, 0)) hs49 (by kernel_rfl) (fun b57 w55 hs56 => ?_)
 have hs58 := St.f1 hs56
 refine ops_appendK kInt (bytes := 8) (a' := (some ⟨b57, 0, none⟩)) (c' := 1) (l := [((placeOf 9 gw gi gb n_) + 0), ((placeOf 9 gw gi gb n_) + 1), ((placeOf 9 gw gi gb n_) + 2)]) (m := [((placeOf 9 gw gi gb n_) + 3)]) hs58 (by kernel_rfl) (by simp) (cells_blk (hs58.heapAt 1 rfl)) (by (unfold maxLen; try simp) <;> (simp only [List.length_cons, List.length_nil]; omega)) (by (try simp) <;> (simp only [List.length_cons, List.length_nil]; omega)) (fun a59 c60 w61 hs62 => ?_)
 have hs63 : St B w [] w61 [kInt.row a59 c60 ([((placeOf 9 gw gi gb n_) + 0), ((placeOf 9 gw gi gb n_) + 1), ((placeOf 9 gw gi gb n_) + 2), ((placeOf 9 gw gi gb n_) + 3)]), blk b57 (.cells [(.int .i64 ((placeOf 9 gw gi gb n_) + 3))].toArray 3 (0, 0)), blk b43 (.cells [(.int .i64 ((placeOf 9 gw gi gb n_) + 2))].toArray 3 (0, 0)), blk b29 (.cells [(.int .i64 ((placeOf 9 gw gi gb n_) + 1))].toArray 3 (0, 0)), blk b15 (.cells [(.int .i64 ((placeOf 9 gw gi gb n_) + 0))].toArray 3 (0, 0))] := hs62
 refine zE 1 ?_
 refine normal_block ?_
 refine hK52 _ _ ?_
 refine W.region ?_
 refine zE 2 ?_
 refine loopAt_next ?_
 refine loopAt_round ?_
 refine W.sr fun K64 hK64 => ?_
 refine zE 1 (hK64 _ _ ?_)
 refine W.seq fun K65 hK65 => ?_
 refine W.cond_true true (by kernel_rfl) rfl ?_
 refine W.skip ?_
 refine hK65 _ _ ?_
 refine W.seq fun K66 hK66 => ?_
 refine W.block ?_
 refine W.sr fun K67 hK67 => ?_
 refine zE 2 (hK67 _ _ ?_)
 refine W.region ?_
 refine zR 3 ?_
 have h68 : -9223372036854775808 ≤ ((placeOf 9 gw gi gb n_) + 4) ∧ ((placeOf 9 gw gi gb n_) + 4) ≤ 9223372036854775807 := by omega
 refine zI _ (wrap_i64 h68.1 h68.2) ?_
 refine ops_new (fun b => .slice (some ⟨b, 0, none⟩) 1 1) (.cells [(.int .i64 ((placeOf 9 gw gi gb n_) + 4))].toArray 3 (0, 0)) hs63 (by kernel_rfl) (fun b71 w69 hs70 => ?_)
 have hs72 := St.f1 hs70
 refine ops_appendK kInt (bytes := 8) (a' := (some ⟨b71, 0, none⟩)) (c' := 1) (l := [((placeOf 9 gw gi gb n_) + 0), ((placeOf 9 gw gi gb n_) + 1), ((placeOf 9 gw gi gb n_) + 2), ((placeOf 9 gw gi gb n_) + 3)]) (m := [((placeOf 9 gw gi gb n_) + 4)]) hs72 (by kernel_rfl) (by simp) (cells_blk (hs72.heapAt 1 rfl)) (by (unfold maxLen; try simp) <;> (simp only [List.length_cons, List.length_nil]; omega)) (by (try simp) <;> (simp only [List.length_cons, List.length_nil]; omega)) (fun a73 c74 w75 hs76 => ?_)
 have hs77 : St B w [] w75 [kInt.row a73 c74 ([((placeOf 9 gw gi gb n_) + 0), ((placeOf 9 gw gi gb n_) + 1), ((placeOf 9 gw gi gb n_) + 2), ((placeOf 9 gw gi gb n_) + 3), ((placeOf 9 gw gi gb n_) + 4)]), blk b71 (.cells [(.int .i64 ((placeOf 9 gw gi gb n_) + 4))].toArray 3 (0, 0)), blk b57 (.cells [(.int .i64 ((placeOf 9 gw gi gb n_) + 3))].toArray 3 (0, 0)), blk b43 (.cells [(.int .i64 ((placeOf 9 gw gi gb n_) + 2))].toArray 3 (0, 0)), blk b29 (.cells [(.int .i64 ((placeOf 9 gw gi gb n_) + 1))].toArray 3 (0, 0)), blk b15 (.cells [(.int .i64 ((placeOf 9 gw gi gb n_) + 0))].toArray 3 (0, 0))] := hs76
 refine zE 1 ?_
 refine normal_block ?_
 refine hK66 _ _ ?_
 refine W.region ?_
 refine zE 2 ?_
 refine loopAt_next ?_
 refine loopAt_round ?_
 refine W.sr fun K78 hK78 => ?_
 refine zE 1 (hK78 _ _ ?_)
 refine W.seq fun K79 hK79 => ?_
 refine W.cond_true true (by kernel_rfl) rfl ?_
 refine W.skip ?_
 refine hK79 _ _ ?_
 refine W.seq fun K80 hK80 => ?_
 refine W.block ?_
 refine W.sr fun K81 hK81 => ?_
 refine zE 2 (hK81 _ _ ?_)
 refine W.region ?_
 refine zR 3 ?_
 have h82 : -9223372036854775808 ≤ ((placeOf 9 gw gi gb n_) + 5) ∧ ((placeOf 9 gw gi gb n_) + 5) ≤ 9223372036854775807 := by omega
 refine zI _ (wrap_i64 h82.1 h82.2) ?_
 refine ops_new (fun b => .slice (some ⟨b, 0, none⟩) 1 1) (.cells [(.int .i64 ((placeOf 9 gw gi gb n_) + 5))].toArray 3 (0, 0)) hs77 (by kernel_rfl) (fun b85 w83 hs84 => ?_)
 have hs86 := St.f1 hs84
 refine ops_appendK kInt (bytes := 8) (a' := (some ⟨b85, 0, none⟩)) (c' := 1) (l := [((placeOf 9 gw gi gb n_) + 0), ((placeOf 9 gw gi gb n_) + 1), ((placeOf 9 gw gi gb n_) + 2), ((placeOf 9 gw gi gb n_) + 3), ((placeOf 9 gw gi gb n_) + 4)]) (m := [((placeOf 9 gw gi gb n_) + 5)]) hs86 (by kernel_rfl) (by simp) (cells_blk (hs86.heapAt 1 rfl)) (by (unfold maxLen; try simp) <;> (simp only [List.length_cons, List.length_nil]; omega)) (by (try simp) <;> (simp only [List.length_cons, List.length_nil]; omega)) (fun a87 c88 w89 hs90 => ?_)
 have hs91 : St B w [] w89 [kInt.row a87 c88 ([((placeOf 9 gw gi gb n_) + 0), ((placeOf 9 gw gi gb n_) + 1), ((placeOf 9 gw gi gb n_) + 2), ((placeOf 9 gw gi gb n_) + 3), ((placeOf 9 gw gi gb n_) + 4), ((placeOf 9 gw gi gb n_) + 5)]), blk b85 (.cells [(.int .i64 ((placeOf 9 gw gi gb n_) + 5))].toArray 3 (0, 0)), blk b71 (.cells [(.int .i64 ((placeOf 9 gw gi gb n_) + 4))].toArray 3 (0, 0)), blk b57 (.cells [(.int .i64 ((placeOf 9 gw gi gb n_) + 3))].toArray 3 (0, 0)), blk b43 (.cells [(.int .i64 ((placeOf 9 gw gi gb n_) + 2))].toArray 3 (0, 0)), blk b29 (.cells [(.int .i64 ((placeOf 9 gw gi gb n_) + 1))].toArray 3 (0, 0)), blk b15 (.cells [(.int .i64 ((placeOf 9 gw gi gb n_) + 0))].toArray 3 (0, 0))] := hs90
 refine zE 1 ?_
 refine normal_block ?_
 refine hK80 _ _ ?_
 refine W.region ?_
 refine zE 2 ?_
 refine loopAt_next ?_
 refine loopAt_round ?_
 refine W.sr fun K92 hK92 => ?_
 refine zE 1 (hK92 _ _ ?_)
 refine W.seq fun K93 hK93 => ?_
 refine W.cond_true true (by kernel_rfl) rfl ?_
 refine W.skip ?_
 refine hK93 _ _ ?_
 refine W.seq fun K94 hK94 => ?_
 refine W.block ?_
 refine W.sr fun K95 hK95 => ?_
 refine zE 2 (hK95 _ _ ?_)
 refine W.region ?_
 refine zR 3 ?_
 have h96 : -9223372036854775808 ≤ ((placeOf 9 gw gi gb n_) + 6) ∧ ((placeOf 9 gw gi gb n_) + 6) ≤ 9223372036854775807 := by omega
 refine zI _ (wrap_i64 h96.1 h96.2) ?_
 refine ops_new (fun b => .slice (some ⟨b, 0, none⟩) 1 1) (.cells [(.int .i64 ((placeOf 9 gw gi gb n_) + 6))].toArray 3 (0, 0)) hs91 (by kernel_rfl) (fun b99 w97 hs98 => ?_)
 have hs100 := St.f1 hs98
 refine ops_appendK kInt (bytes := 8) (a' := (some ⟨b99, 0, none⟩)) (c' := 1) (l := [((placeOf 9 gw gi gb n_) + 0), ((placeOf 9 gw gi gb n_) + 1), ((placeOf 9 gw gi gb n_) + 2), ((placeOf 9 gw gi gb n_) + 3), ((placeOf 9 gw gi gb n_) + 4), ((placeOf 9 gw gi gb n_) + 5)]) (m := [((placeOf 9 gw gi gb n_) + 6)]) hs100 (by kernel_rfl) (by simp) (cells_blk (hs100.heapAt 1 rfl)) (by (unfold maxLen; try simp) <;> (simp only [List.length_cons, List.length_nil]; omega)) (by (try simp) <;> (simp only [List.length_cons, List.length_nil]; omega)) (fun a101 c102 w103 hs104 => ?_)
 have hs105 : St B w [] w103 [kInt.row a101 c102 ([((placeOf 9 gw gi gb n_) + 0), ((placeOf 9 gw gi gb n_) + 1), ((placeOf 9 gw gi gb n_) + 2), ((placeOf 9 gw gi gb n_) + 3), ((placeOf 9 gw gi gb n_) + 4), ((placeOf 9 gw gi gb n_) + 5), ((placeOf 9 gw gi gb n_) + 6)]), blk b99 (.cells [(.int .i64 ((placeOf 9 gw gi gb n_) + 6))].toArray 3 (0, 0)), blk b85 (.cells [(.int .i64 ((placeOf 9 gw gi gb n_) + 5))].toArray 3 (0, 0)), blk b71 (.cells [(.int .i64 ((placeOf 9 gw gi gb n_) + 4))].toArray 3 (0, 0)), blk b57 (.cells [(.int .i64 ((placeOf 9 gw gi gb n_) + 3))].toArray 3 (0, 0)), blk b43 (.cells [(.int .i64 ((placeOf 9 gw gi gb n_) + 2))].toArray 3 (0, 0)), blk b29 (.cells [(.int .i64 ((placeOf 9 gw gi gb n_) + 1))].toArray 3 (0, 0)), blk b15 (.cells [(.int .i64 ((placeOf 9 gw gi gb n_) + 0))].toArray 3 (0, 0))] := hs104
 refine zE 1 ?_
 refine normal_block ?_
 refine hK94 _ _ ?_
 refine W.region ?_
 refine zE 2 ?_
 refine loopAt_next ?_
 refine loopAt_round ?_
 refine W.sr fun K106 hK106 => ?_
 refine zE 1 (hK106 _ _ ?_)
 refine W.seq fun K107 hK107 => ?_
 refine W.cond_true true (by kernel_rfl) rfl ?_
 refine W.skip ?_
 refine hK107 _ _ ?_
 refine W.seq fun K108 hK108 => ?_
 refine W.block ?_
 refine W.sr fun K109 hK109 => ?_
 refine zE 2 (hK109 _ _ ?_)
 refine W.region ?_
 refine zR 3 ?_
 have h110 : -9223372036854775808 ≤ ((placeOf 9 gw gi gb n_) + 7) ∧ ((placeOf 9 gw gi gb n_) + 7) ≤ 9223372036854775807 := by omega
 refine zI _ (wrap_i64 h110.1 h110.2) ?_
 refine ops_new (fun b => .slice (some ⟨b, 0, none⟩) 1 1) (.cells [(.int .i64 ((placeOf 9 gw gi gb n_) + 7))].toArray 3 (0, 0)) hs105 (by kernel_rfl) (fun b113 w111 hs112 => ?_)
 have hs114 := St.f1 hs112
 refine ops_appendK kInt (bytes := 8) (a' := (some ⟨b113, 0, none⟩)) (c' := 1) (l := [((placeOf 9 gw gi gb n_) + 0), ((placeOf 9 gw gi gb n_) + 1), ((placeOf 9 gw gi gb n_) + 2), ((placeOf 9 gw gi gb n_) + 3), ((placeOf 9 gw gi gb n_) + 4), ((placeOf 9 gw gi gb n_) + 5), ((placeOf 9 gw gi gb n_) + 6)]) (m := [((placeOf 9 gw gi gb n_) + 7)]) hs114 (by kernel_rfl) (by simp) (cells_blk (hs114.heapAt 1 rfl)) (by (unfold maxLen; try simp) <;> (simp only [List.length_cons, List.length_nil]; omega)) (by (try simp) <;> (simp only [List.length_cons, List.length_nil]; omega)) (fun a115 c116 w117 hs118 => ?_)
 have hs119 : St B w [] w117 [kInt.row a115 c116 ([((placeOf 9 gw gi gb n_) + 0), ((placeOf 9 gw gi gb n_) + 1), ((placeOf 9 gw gi gb n_) + 2), ((placeOf 9 gw gi gb n_) + 3), ((placeOf 9 gw gi gb n_) + 4), ((placeOf 9 gw gi gb n_) + 5), ((placeOf 9 gw gi gb n_) + 6), ((placeOf 9 gw gi gb n_) + 7)]), blk b113 (.cells [(.int .i64 ((placeOf 9 gw gi gb n_) + 7))].toArray 3 (0, 0)), blk b99 (.cells [(.int .i64 ((placeOf 9 gw gi gb n_) + 6))].toArray 3 (0, 0)), blk b85 (.cells [(.int .i64 ((placeOf 9 gw gi gb n_) + 5))].toArray 3 (0, 0)), blk b71 (.cells [(.int .i64 ((placeOf 9 gw gi gb n_) + 4))].toArray 3 (0, 0)), blk b57 (.cells [(.int .i64 ((placeOf 9 gw gi gb n_) + 3))].toArray 3 (0, 0)), blk b43 (.cells [(.int .i64 ((placeOf 9 gw gi gb n_) + 2))].toArray 3 (0, 0)), blk b29 (.cells [(.int .i64 ((placeOf 9 gw gi gb n_) + 1))].toArray 3 (0, 0)), blk b15 (.cells [(.int .i64 ((placeOf 9 gw gi gb n_) + 0))].toArray 3 (0, 0))] := hs118
 refine zE 1 ?_
 refine normal_block ?_
 refine hK108 _ _ ?_
 refine W.region ?_
 refine zE 2 ?_
 refine loopAt_next ?_
 refine loopAt_round ?_
 refine W.sr fun K120 hK120 => ?_
 refine zE 1 (hK120 _ _ ?_)
 refine W.seq fun K121 hK121 => ?_
 refine W.cond_false false (by kernel_rfl) rfl ?_
 refine W.exit (exit_seq (exit_seq (exit_here ?_)))
 refine hK6 _ _ ?_
 refine W.sr fun K122 hK122 => ?_
 refine zE 2 (hK122 _ _ ?_)
 refine W.ret ?_
 have hs123 := St.tk1 hs119
 refine ret_of (.slice a115 (([((placeOf 9 gw gi gb n_) + 0), ((placeOf 9 gw gi gb n_) + 1), ((placeOf 9 gw gi gb n_) + 2), ((placeOf 9 gw gi gb n_) + 3), ((placeOf 9 gw gi gb n_) + 4), ((placeOf 9 gw gi gb n_) + 5), ((placeOf 9 gw gi gb n_) + 6), ((placeOf 9 gw gi gb n_) + 7)]).length) c116) (by kernel_rfl) ⟨_, ⟨a115, c116, rfl, rfl⟩, hs123⟩

end Go.Proofs.YtmmclabkkigiaaaGreatDoor

set_option linter.unusedVariables false
set_option maxRecDepth 20000
namespace Go.Proofs.YtmmclabkkigiaaaGreatDoor
open Go Go.RowKit
set_option linter.unusedSimpArgs false
set_option linter.unusedVariables false

def atake1_J1 (r6 : Int × Bool) (p22 : Int) (l23 : List (Int × Int)) : Option (Int × Int × List (Int × Int)) :=
 if p22 = 0 then (some (r6.1, 0, l23)) else (some (0, p22, l23))

def atake1_J2 (img : List Int) (gw : Int) (gi : Int) (gb : Int) (r6 : Int × Bool) (r15 : Int × List (Int × Int)) (p39 : Bool) : Option (Int × Int × List (Int × Int)) :=
 if p39 = true then (need (-1000000 ≤ (placeOf 9 gw gi gb r6.1) ∧ (placeOf 9 gw gi gb r6.1) ≤ 1000000) <|
(aclear_M img r15.2 ([((placeOf 9 gw gi gb r6.1) + 0), ((placeOf 9 gw gi gb r6.1) + 1), ((placeOf 9 gw gi gb r6.1) + 2), ((placeOf 9 gw gi gb r6.1) + 3), ((placeOf 9 gw gi gb r6.1) + 4), ((placeOf 9 gw gi gb r6.1) + 5), ((placeOf 9 gw gi gb r6.1) + 6), ((placeOf 9 gw gi gb r6.1) + 7)])).bind fun r49 =>
atake1_J1 r6 r49.1 r49.2) else (atake1_J1 r6 r15.1 r15.2)

def atake1_M (img : List Int) (l : List (Int × Int)) (gw : Int) (gi : Int) (gb : Int) (at_ : Int) (many : Int) : Option (Int × Int × List (Int × Int)) :=
 (mclear_M img l at_ many).bind fun r6 =>
if r6.2 = true then ((mset_M img l at_ many r6.1 true).bind fun r15 =>
if r15.1 = 0 then (atake1_J2 img gw gi gb r6 r15 true) else (atake1_J2 img gw gi gb r6 r15 false)) else (some (0, 7, l))

theorem atake1_walk {img : List Int} {l : List (Int × Int)} {gw : Int} {gi : Int} {gb : Int} {at_ : Int} {many : Int} {pm : Int} {ab ib bb vb mb cb : Nat} {r : Int × Int × List (Int × Int)} (B : Nat) (w : World) (hG : 1 < B) (hT : CellsAt (some ⟨1, 0, none⟩) tab8 w) (hm : atake1_M img l gw gi gb at_ many = some r) : Spec Tryz.prog 146 #[(.pointer (some ⟨ab, 0, none⟩)), (.agg #[(.pointer (some ⟨mb, 0, none⟩)), (.int .i64 pm)]), (.func (.func 147) #[] #[(.pointer (some ⟨cb, 0, none⟩))])] B w [blk ab (.cells [(.pointer (some ⟨vb, 0, none⟩)), (.int .i64 gw), (.int .i64 gi), (.int .i64 gb), (.pointer (some ⟨ib, 0, none⟩)), (.int .i64 gi), (.pointer (some ⟨bb, 0, none⟩)), (.int .i64 gb)].toArray 208 (0, 0)), blk mb (.cells [(.pointer (some ⟨vb, 0, none⟩)), (.int .i64 at_), (.int .i64 many)].toArray 213 (0, 0)), blk cb (.cells [(.pointer (some ⟨ab, 0, none⟩))].toArray 192 (0, 0)), viewA (ptr vb) img l] (fun v H' => v = .tuple #[.int .i64 r.1, .int .i64 r.2.1] ∧ H' = [blk ab (.cells [(.pointer (some ⟨vb, 0, none⟩)), (.int .i64 gw), (.int .i64 gi), (.int .i64 gb), (.pointer (some ⟨ib, 0, none⟩)), (.int .i64 gi), (.pointer (some ⟨bb, 0, none⟩)), (.int .i64 gb)].toArray 208 (0, 0)), blk mb (.cells [(.pointer (some ⟨vb, 0, none⟩)), (.int .i64 at_), (.int .i64 many)].toArray 213 (0, 0)), blk cb (.cells [(.pointer (some ⟨ab, 0, none⟩))].toArray 192 (0, 0)), viewA (ptr vb) img r.2.2]) := by
 refine spec_W Tryz.func146 rfl fun l0 hs => ?_
 unfold atake1_M at hm
 refine W.sr fun K1 hK1 => ?_
 refine zN [(.pointer (some ⟨mb, 0, none⟩)), (.int .i64 pm)] 206 hs fun b4 w2 hs3 => ?_
 refine zE 2 (hK1 _ _ ?_)
 refine W.sr fun K5 hK5 => ?_
 refine zR 1 ?_
 refine zL ⟨b4, 0, none⟩ (.pointer (some ⟨mb, 0, none⟩)) (hs3.cellAt 0 rfl rfl) ?_
 obtain ⟨r6, h7, hm⟩ := bind_some hm
 refine zC00 hs3 (mclear_walk (hmb := (hs3.heapAt 2 rfl)) (hv := (hs3.entAt 4 rfl viewA_at)) (hT := (hs3.oldCellsB hG hT)) (hm := h7) B _) fun w8 hs10 => ?_
 refine zE 5 (hK5 _ _ ?_)
 refine W.seq fun K11 hK11 => ?_
 refine W.sr fun K12 hK12 => ?_
 refine zE 2 (hK12 _ _ ?_)
 refine W.cond (!r6.2) (by kernel_rfl) (fun h13 => ?_) (fun h13 => ?_)
 rotate_left
 ·
  have h13p : r6.2 = true := (bnot_false h13)
  replace hm := ite_yes hm h13p
  refine W.skip ?_
  refine hK11 _ _ ?_
  refine W.sr fun K14 hK14 => ?_
  refine zR 1 ?_
  refine zL ⟨b4, 0, none⟩ (.pointer (some ⟨mb, 0, none⟩)) (hs10.cellAt 0 rfl rfl) ?_
  refine zR 1 ?_
  obtain ⟨r15, h16, hm⟩ := bind_some hm
  have hs17 := St.f4 hs10
  have hs18 := St.f3 hs17
  refine zC22 hs18 (mset_walk (hm := h16) B _) fun w19 hs21 => ?_
  refine zE 1 (hK14 _ _ ?_)
  refine W.seq_join (fun s_ w_ => ∃ (p22 : Int) (l23 : List (Int × Int)), (∃ us, s_ = slots 38 [(8, (.int .i64 r6.1)), (10, (.int .i64 p22))] us) ∧ St B w l0 w_ [viewA (ptr vb) img l23, blk mb (.cells [(.pointer (some ⟨vb, 0, none⟩)), (.int .i64 at_), (.int .i64 many)].toArray 213 (0, 0)), blk b4 (.cells [(.pointer (some ⟨mb, 0, none⟩)), (.int .i64 pm)].toArray 206 (0, 0)), blk ab (.cells [(.pointer (some ⟨vb, 0, none⟩)), (.int .i64 gw), (.int .i64 gi), (.int .i64 gb), (.pointer (some ⟨ib, 0, none⟩)), (.int .i64 gi), (.pointer (some ⟨bb, 0, none⟩)), (.int .i64 gb)].toArray 208 (0, 0)), blk cb (.cells [(.pointer (some ⟨ab, 0, none⟩))].toArray 192 (0, 0))] ∧ atake1_J1 r6 p22 l23 = some r) ?_ ?_
  ·
   rintro _ w24 ⟨p22, l23, ⟨us, rfl⟩, hs25, hm⟩
   unfold atake1_J1 at hm
   refine W.seq fun K26 hK26 => ?_
   refine W.sr fun K27 hK27 => ?_
   refine zE 2 (hK27 _ _ ?_)
   refine W.cond (!decide (p22 = 0)) (by kernel_rfl) (fun h28 => ?_) (fun h28 => ?_)
   rotate_left
   ·
    have h28p : p22 = 0 := of_decide_eq_true (bnot_false h28)
    replace hm := ite_yes hm h28p
    refine W.skip ?_
    refine hK26 _ _ ?_
    refine W.sr fun K29 hK29 => ?_
    refine zE 3 (hK29 _ _ ?_)
    refine W.ret ?_
    obtain rfl := some_inj hm
    have hs30 := St.f4 hs25
    have hs31 := St.f2 hs30
    have hs32 := St.f4 hs31
    have hs33 := St.tk4 hs32
    refine ret_of (.tuple #[(.int .i64 r6.1), (.int .i64 0)]) (by kernel_rfl) ⟨_, ⟨rfl, rfl⟩, hs33⟩
   ·
    have h28p : ¬ (p22 = 0) := of_decide_eq_false (bnot_true h28)
    replace hm := ite_no hm h28p
    refine W.sr fun K34 hK34 => ?_
    refine zE 3 (hK34 _ _ ?_)
    refine W.ret (ret_seq ?_)
    obtain rfl := some_inj hm
    have hs35 := St.f4 hs25
    have hs36 := St.f2 hs35
    have hs37 := St.f4 hs36
    have hs38 := St.tk4 hs37
    refine ret_of (.tuple #[(.int .i64 0), (.int .i64 p22)]) (by kernel_rfl) ⟨_, ⟨rfl, rfl⟩, hs38⟩
  ·
   refine W.seq_join (fun s_ w_ => ∃ (p39 : Bool), (∃ us, s_ = slots 38 [(0, (.pointer (some ⟨ab, 0, none⟩))), (2, (.func (.func 147) #[] #[(.pointer (some ⟨cb, 0, none⟩))])), (8, (.int .i64 r6.1)), (10, (.int .i64 r15.1)), (28, (.bool p39))] us) ∧ St B w l0 w_ [viewA (ptr vb) img r15.2, blk ab (.cells [(.pointer (some ⟨vb, 0, none⟩)), (.int .i64 gw), (.int .i64 gi), (.int .i64 gb), (.pointer (some ⟨ib, 0, none⟩)), (.int .i64 gi), (.pointer (some ⟨bb, 0, none⟩)), (.int .i64 gb)].toArray 208 (0, 0)), blk mb (.cells [(.pointer (some ⟨vb, 0, none⟩)), (.int .i64 at_), (.int .i64 many)].toArray 213 (0, 0)), blk b4 (.cells [(.pointer (some ⟨mb, 0, none⟩)), (.int .i64 pm)].toArray 206 (0, 0)), blk cb (.cells [(.pointer (some ⟨ab, 0, none⟩))].toArray 192 (0, 0))] ∧ atake1_J2 img gw gi gb r6 r15 p39 = some r) ?_ ?_
   ·
    rintro _ w40 ⟨p39, ⟨us, rfl⟩, hs41, hm⟩
    unfold atake1_J2 at hm
    refine W.cond p39 (by kernel_rfl) (fun h42 => ?_) (fun h42 => ?_)
    ·
     have h42p : p39 = true := h42
     replace hm := ite_yes hm h42p
     refine W.region ?_
     refine zR 3 ?_
     obtain ⟨h45, hm⟩ := need_some hm
     refine ops_call0 hs41 (by kernel_rfl) (own_spec (n_ := r6.1) (hpl := h45) (hcb := (hs41.heapAt 4 rfl)) (hab := (hs41.heapAt 1 rfl)) B _) ?_
     rintro _ _ w46 ⟨a43, c44, rfl, rfl⟩ hs47
     have hs48 := St.ap1 hs47
     obtain ⟨r49, h50, hm⟩ := bind_some hm
     have hs51 := St.f1 hs48
     have hs52 := St.f1 hs51
     have hs53 := St.f2 hs52
     refine ops_call3 hs53 (by kernel_rfl) (aclear_walk (hm := h50) B _) ?_
     rintro _ _ w54 ⟨rfl, rfl⟩ hs55
     have hs56 := St.ap3 hs55
     refine zE 1 ?_
     have hs57 := St.f5 hs56
     have hs58 := St.f1 hs57
     have hs59 := St.f5 hs58
     have hs60 := St.f5 hs59
     have hs61 := St.f5 hs60
     have hs62 := St.tk5 hs61
     exact ⟨r49.1, r49.2, slots_intro _ (by kernel_rfl), hs62, hm⟩
    ·
     have h42p : ¬ (p39 = true) := ne_true_of_eq_false h42
     replace hm := ite_no hm h42p
     refine W.skip ?_
     have hs63 := St.f4 hs41
     have hs64 := St.f2 hs63
     have hs65 := St.f4 hs64
     have hs66 := St.f4 hs65
     have hs67 := St.f4 hs66
     exact ⟨r15.1, r15.2, slots_intro _ (by kernel_rfl), hs67, hm⟩
   ·
    refine W.region ?_
    refine zR 3 ?_
    rcases Bool.eq_false_or_eq_true (decide (r15.1 = 0)) with h68 | h68
    ·
     obtain ⟨h68p, hm⟩ := iY hm h68
     refine zS 25 h68 ?_
     refine zS 24 h68 ?_
     refine zE 3 ?_
     have hs69 := St.f4 hs21
     have hs70 := St.f3 hs69
     have hs71 := St.f2 hs70
     have hs72 := St.f4 hs71
     have hs73 := St.f4 hs72
     exact ⟨true, slots_intro _ (by kernel_rfl), hs73, hm⟩
    ·
     obtain ⟨h68p, hm⟩ := iN hm h68
     refine zS 25 h68 ?_
     refine zS 24 h68 ?_
     refine zE 3 ?_
     have hs74 := St.f4 hs21
     have hs75 := St.f3 hs74
     have hs76 := St.f2 hs75
     have hs77 := St.f4 hs76
     have hs78 := St.f4 hs77
     exact ⟨false, slots_intro _ (by kernel_rfl), hs78, hm⟩
 ·
  have h13p : ¬ (r6.2 = true) := ne_true_of_eq_false (bnot_true h13)
  replace hm := ite_no hm h13p
  refine W.sr fun K79 hK79 => ?_
  refine zE 2 (hK79 _ _ ?_)
  refine W.ret (ret_seq ?_)
  obtain rfl := some_inj hm
  have hs80 := St.f4 hs10
  have hs81 := St.f4 hs80
  have hs82 := St.f4 hs81
  have hs83 := St.f4 hs82
  have hs84 := St.tk4 hs83
  refine ret_of (.tuple #[(.int .i64 0), (.int .i64 7)]) (by kernel_rfl) ⟨_, ⟨rfl, rfl⟩, hs84⟩

end Go.Proofs.YtmmclabkkigiaaaGreatDoor

set_option maxRecDepth 20000
namespace Go.Proofs.YtmmclabkkigiaaaGreatDoor
open Go Go.RowKit
set_option linter.unusedSimpArgs false
set_option linter.unusedVariables false

theorem of_ok {vb : Nat} {img : List Int} {l : List (Int × Int)} {at_ many : Int} (B : Nat) (w : World) (hv : ViewAt (ptr vb) img l w) (hz : (img.length : Int) ≤ 1000000000000) (ho : (0 ≤ at_ ∧ at_ < (img.length : Int)) ∧ (1 ≤ many ∧ many ≤ 1000000000000) ∧ (many - 1) / 64 < (img.length : Int) - at_) : Spec Tryz.prog 135 #[(.pointer (some ⟨vb, 0, none⟩)), (.int .i64 at_), (.int .i64 many)] B w [] (fun v H' => ∃ b', v = .tuple #[ptr b', .int .i64 0] ∧ H' = [blk b' (.cells [(.pointer (some ⟨vb, 0, none⟩)), (.int .i64 at_), (.int .i64 many)].toArray 213 (0, 0))]) := by
 refine spec_Q Tryz.func135 rfl fun hs => ?_
 refine W.sr fun K1 hK1 => ?_
 refine zE 2 (hK1 _ _ ?_)
 refine W.seq fun K2 hK2 => ?_
 refine W.block ?_
 refine W.sr fun K3 hK3 => ?_
 refine zE 3 (hK3 _ _ ?_)
 refine W.cond_false false (by kernel_rfl) rfl ?_
 refine W.sr fun K4 hK4 => ?_
 refine zE 3 (hK4 _ _ ?_)
 refine W.cond (decide (many < 1)) (by kernel_rfl) (fun h5 => ?_) (fun h5 => ?_)
 ·
  have h5p := of_decide_eq_true h5
  refine W.sr fun K6 hK6 => ?_
  refine zE 2 (hK6 _ _ ?_)
  refine W.ret (ret_block (ret_seq ?_))
  exfalso
  omega
 ·
  have h5p := of_decide_eq_false h5
  refine W.seq fun K7 hK7 => ?_
  refine W.sr fun K8 hK8 => ?_
  refine zE 3 (hK8 _ _ ?_)
  refine W.cond (decide (at_ < 0)) (by kernel_rfl) (fun h9 => ?_) (fun h9 => ?_)
  ·
   have h9p := of_decide_eq_true h9
   refine W.skip ?_
   refine hK7 _ _ ?_
   refine W.cond (decide (at_ < 0)) (by kernel_rfl) (fun h10 => ?_) (fun h10 => ?_)
   ·
    have h10p := of_decide_eq_true h10
    refine W.sr fun K11 hK11 => ?_
    refine zE 2 (hK11 _ _ ?_)
    refine W.ret (ret_block (ret_seq ?_))
    exfalso
    omega
   ·
    have h10p := of_decide_eq_false h10
    refine W.skip ?_
    refine normal_block ?_
    refine hK2 _ _ ?_
    refine W.sr fun K12 hK12 => ?_
    refine zR 4 ?_
    refine zN [(.pointer (some ⟨vb, 0, none⟩)), (.int .i64 at_), (.int .i64 many)] 213 hs fun b15 w13 hs14 => ?_
    refine zE 2 (hK12 _ _ ?_)
    refine W.ret ?_
    refine ret_of (.tuple #[(.pointer (some ⟨b15, 0, none⟩)), (.int .i64 0)]) (by kernel_rfl) ⟨_, ⟨b15, rfl, rfl⟩, hs14⟩
  ·
   have h9p := of_decide_eq_false h9
   refine W.sr fun K16 hK16 => ?_
   refine zR 2 ?_
   refine zC00 hs (len_spec (hv := (viewAt_old hs hv)) B _) fun w17 hs19 => ?_
   refine zE 2 (hK16 _ _ ?_)
   refine W.cond (decide (at_ ≥ (img.length : Int))) (by kernel_rfl) (fun h20 => ?_) (fun h20 => ?_)
   ·
    have h20p := of_decide_eq_true h20
    refine W.skip ?_
    refine hK7 _ _ ?_
    refine W.cond (decide (at_ ≥ (img.length : Int))) (by kernel_rfl) (fun h21 => ?_) (fun h21 => ?_)
    ·
     have h21p := of_decide_eq_true h21
     refine W.sr fun K22 hK22 => ?_
     refine zE 2 (hK22 _ _ ?_)
     refine W.ret (ret_block (ret_seq ?_))
     exfalso
     omega
    ·
     have h21p := of_decide_eq_false h21
     refine W.skip ?_
     refine normal_block ?_
     refine hK2 _ _ ?_
     refine W.sr fun K23 hK23 => ?_
     refine zR 4 ?_
     refine zN [(.pointer (some ⟨vb, 0, none⟩)), (.int .i64 at_), (.int .i64 many)] 213 hs19 fun b26 w24 hs25 => ?_
     refine zE 2 (hK23 _ _ ?_)
     refine W.ret ?_
     refine ret_of (.tuple #[(.pointer (some ⟨b26, 0, none⟩)), (.int .i64 0)]) (by kernel_rfl) ⟨_, ⟨b26, rfl, rfl⟩, hs25⟩
   ·
    have h20p := of_decide_eq_false h20
    refine W.region ?_
    refine zR 1 ?_
    have h27 : -9223372036854775808 ≤ (many - 1) ∧ (many - 1) ≤ 9223372036854775807 := by omega
    refine zI _ (wrap_i64 h27.1 h27.2) ?_
    have h28 : 0 ≤ (many - 1) := by omega
    have h29 : -9223372036854775808 ≤ ((many - 1) / 64) ∧ ((many - 1) / 64) ≤ 9223372036854775807 := by omega
    refine ops_R (v := .int .i64 ((many - 1) / 64)) (runs_quo (k := .i64) (a := (many - 1)) (b := 64) (by kernel_rfl) (by decide) ((congrArg IntKind.i64.wrap (Int.tdiv_eq_ediv_of_nonneg h28)).trans (wrap_i64 h29.1 h29.2))) ?_
    refine zR 1 ?_
    refine zC00 hs19 (len_spec (hv := (viewAt_old hs19 hv)) B _) fun w30 hs32 => ?_
    refine zR 1 ?_
    have h33 : -9223372036854775808 ≤ ((img.length : Int) - at_) ∧ ((img.length : Int) - at_) ≤ 9223372036854775807 := by omega
    refine zI _ (wrap_i64 h33.1 h33.2) ?_
    refine zE 2 (hK7 _ _ ?_)
    refine W.cond (decide (((many - 1) / 64) ≥ ((img.length : Int) - at_))) (by kernel_rfl) (fun h34 => ?_) (fun h34 => ?_)
    ·
     have h34p := of_decide_eq_true h34
     refine W.sr fun K35 hK35 => ?_
     refine zE 2 (hK35 _ _ ?_)
     refine W.ret (ret_block (ret_seq ?_))
     exfalso
     omega
    ·
     have h34p := of_decide_eq_false h34
     refine W.skip ?_
     refine normal_block ?_
     refine hK2 _ _ ?_
     refine W.sr fun K36 hK36 => ?_
     refine zR 4 ?_
     refine zN [(.pointer (some ⟨vb, 0, none⟩)), (.int .i64 at_), (.int .i64 many)] 213 hs32 fun b39 w37 hs38 => ?_
     refine zE 2 (hK36 _ _ ?_)
     refine W.ret ?_
     refine ret_of (.tuple #[(.pointer (some ⟨b39, 0, none⟩)), (.int .i64 0)]) (by kernel_rfl) ⟨_, ⟨b39, rfl, rfl⟩, hs38⟩

end Go.Proofs.YtmmclabkkigiaaaGreatDoor

set_option maxRecDepth 20000
namespace Go.Proofs.YtmmclabkkigiaaaGreatDoor
open Go Go.RowKit
set_option linter.unusedSimpArgs false
set_option linter.unusedVariables false

theorem anew_ok {vb : Nat} {img : List Int} {l : List (Int × Int)} {gw gi gb : Int} (B : Nat) (w : World) (hv : ViewAt (ptr vb) img l w) (hz : (img.length : Int) ≤ 1000000000000) (hP : May gw gi gb ∧ wordsOf gw gi gb ≤ (img.length : Int)) : Spec Tryz.prog 115 #[(.pointer (some ⟨vb, 0, none⟩)), (.agg #[(.int .i64 gw), (.int .i64 gi), (.int .i64 gb)])] B w [] (fun v H' => ∃ ab ib bb, v = .tuple #[ptr ab, .int .i64 0] ∧ H' = [blk ab (.cells [(.pointer (some ⟨vb, 0, none⟩)), (.int .i64 gw), (.int .i64 gi), (.int .i64 gb), (.pointer (some ⟨ib, 0, none⟩)), (.int .i64 gi), (.pointer (some ⟨bb, 0, none⟩)), (.int .i64 gb)].toArray 208 (0, 0)), blk ib (.cells [(.pointer (some ⟨vb, 0, none⟩)), (.int .i64 (placeOf 6 gw gi gb 0)), (.int .i64 gi)].toArray 213 (0, 0)), blk bb (.cells [(.pointer (some ⟨vb, 0, none⟩)), (.int .i64 (placeOf 7 gw gi gb 0)), (.int .i64 gb)].toArray 213 (0, 0))]) := by
 refine spec_Q Tryz.func115 rfl fun hs => ?_
 have hm : May gw gi gb := hP.1
 have hl := hP.2
 have hm_ : (1 ≤ gw ∧ gw ≤ 4) ∧ (2 ≤ gi ∧ gi ≤ 64) ∧ (2 ≤ gb ∧ gb ≤ 512) := hm
 have hwd := words_may hm
 have hp6 := place6 hm
 have hp7 := place7 hm
 refine W.sr fun K1 hK1 => ?_
 refine zN [(.int .i64 gw), (.int .i64 gi), (.int .i64 gb)] 31 hs fun b4 w2 hs3 => ?_
 refine zE 2 (hK1 _ _ ?_)
 refine W.seq fun K5 hK5 => ?_
 refine W.block ?_
 refine W.sr fun K6 hK6 => ?_
 refine zE 3 (hK6 _ _ ?_)
 refine W.cond_false false (by kernel_rfl) rfl ?_
 refine W.sr fun K7 hK7 => ?_
 refine ops_R (runs_loadAgg (ad := ⟨b4, 0, none⟩) (cs := [(.int .i64 gw), (.int .i64 gi), (.int .i64 gb)]) (by kernel_rfl) (cells_sub (hs3.heapAt 0 rfl) rfl)) ?_
 refine zC00 hs3 (may_spec (gw := gw) (gi := gi) (gb := gb) B _) fun w8 hs10 => ?_
 refine zE 2 (hK7 _ _ ?_)
 refine W.cond (!(decide (May gw gi gb))) (by kernel_rfl) (fun h11 => ?_) (fun h11 => ?_)
 ·
  have h11p : ¬ (May gw gi gb) := of_decide_eq_false (bnot_true h11)
  refine W.sr fun K12 hK12 => ?_
  refine zE 2 (hK12 _ _ ?_)
  refine W.ret (ret_block (ret_seq ?_))
  exfalso
  first | omega | (exact absurd hm (by assumption))
 ·
  have h11p : May gw gi gb := of_decide_eq_true (bnot_false h11)
  refine W.seq fun K13 hK13 => ?_
  have hs14 := hs10.drew
  refine W.regionD [(0, 0), (1, 1), (0, 0), (6, 4), (10, 10), (24, 16)] (fun w_ => St B w [] w_ [blk b4 (.cells [(.int .i64 gw), (.int .i64 gi), (.int .i64 gb)].toArray 31 (0, 0))]) (by kernel_rfl) hs14 ?_
  refine any_val (v := (.pointer (some ⟨vb, 0, none⟩))) (v' := (.pointer (some ⟨vb, 0, none⟩))) 0 (by kernel_rfl) (fun _ => by kernel_rfl) rfl hs14 ?_
  refine any_R 2 (by kernel_rfl) (fun _ hS_ => runs_loadAgg (ad := ⟨b4, 0, none⟩) (cs := [(.int .i64 gw), (.int .i64 gi), (.int .i64 gb)]) (by kernel_rfl) (cells_sub (hS_.heapAt 0 rfl) rfl)) hs14 ?_
  refine any_step 1 (by kernel_rfl) (by kernel_rfl) ?_
  refine zC00 hs14 (len_spec (hv := (viewAt_old hs14 hv)) B _) fun w15 hs17 => ?_
  refine ops_done (by kernel_rfl) ⟨hs17, ?_⟩
  refine any_step 3 (by kernel_rfl) (by kernel_rfl) ?_
  refine zC00 hs17 (lwords_spec (gw := gw) (gi := gi) (gb := gb) B _) fun w18 hs20 => ?_
  refine ops_done (by kernel_rfl) ⟨hs20, ?_⟩
  refine any_val (v := (.bool (decide ((img.length : Int) < (wordsOf gw gi gb))))) (v' := (.bool (decide ((img.length : Int) < (wordsOf gw gi gb))))) 4 (by kernel_rfl) (fun _ => by kernel_rfl) rfl hs20 ?_
  refine any_val (v := (.bool (decide ((img.length : Int) < (wordsOf gw gi gb))))) (v' := (.bool (decide ((img.length : Int) < (wordsOf gw gi gb))))) 5 (by kernel_rfl) (fun _ => by kernel_rfl) rfl hs20 ?_
  refine any_done (by kernel_rfl) ?_
  refine hK13 _ _ ?_
  refine W.cond (decide ((img.length : Int) < (wordsOf gw gi gb))) (by kernel_rfl) (fun h21 => ?_) (fun h21 => ?_)
  ·
   have h21p := of_decide_eq_true h21
   refine W.sr fun K22 hK22 => ?_
   refine zE 2 (hK22 _ _ ?_)
   refine W.ret (ret_block (ret_seq ?_))
   exfalso
   first | omega | (exact absurd hm (by assumption))
  ·
   have h21p := of_decide_eq_false h21
   refine W.skip ?_
   refine normal_block ?_
   refine hK5 _ _ ?_
   refine W.seq fun K23 hK23 => ?_
   have hs24 := hs20.drew
   refine W.regionD [(0, 0), (0, 0), (2, 2), (0, 0), (8, 8), (21, 21), (32, 32), (64, 64), (64, 64), (255, 128), (1023, 256)] (fun w_ => St B w [] w_ [blk b4 (.cells [(.int .i64 gw), (.int .i64 gi), (.int .i64 gb)].toArray 31 (0, 0))]) (by kernel_rfl) hs24 ?_
   refine any_val (v := (.pointer (some ⟨vb, 0, none⟩))) (v' := (.pointer (some ⟨vb, 0, none⟩))) 0 (by kernel_rfl) (fun _ => by kernel_rfl) rfl hs24 ?_
   refine any_R 1 (by kernel_rfl) (fun _ hS_ => runs_loadAgg (ad := ⟨b4, 0, none⟩) (cs := [(.int .i64 gw), (.int .i64 gi), (.int .i64 gb)]) (by kernel_rfl) (cells_sub (hS_.heapAt 0 rfl) rfl)) hs24 ?_
   refine any_val (v := (.pointer (some ⟨b4, 1, none⟩))) (v' := (.pointer (some ⟨b4, 1, none⟩))) 3 (by kernel_rfl) (fun _ => by kernel_rfl) rfl hs24 ?_
   refine any_R 4 (by kernel_rfl) (fun _ hS_ => runs_load (ad := ⟨b4, 1, none⟩) (v := (.int .i64 gi)) (by kernel_rfl) (hS_.cellAt 0 rfl rfl)) hs24 ?_
   refine any_step 2 (by kernel_rfl) (by kernel_rfl) ?_
   refine zC00 hs24 (lmap6_spec (gw := gw) (gi := gi) (gb := gb) B _) fun w25 hs27 => ?_
   refine ops_done (by kernel_rfl) ⟨hs27, ?_⟩
   refine any_step 5 (by kernel_rfl) (by kernel_rfl) ?_
   have h28 : (img.length : Int) ≤ 1000000000000 := by first | omega | (exact absurd hm (by assumption))
   have h29 : (0 ≤ ((placeOf 6 gw gi gb 0) : Int) ∧ ((placeOf 6 gw gi gb 0) : Int) < (img.length : Int)) ∧ (1 ≤ (gi : Int) ∧ (gi : Int) ≤ 1000000000000) ∧ ((gi : Int) - 1) / 64 < (img.length : Int) - ((placeOf 6 gw gi gb 0) : Int) := by first | omega | (exact absurd hm (by assumption))
   refine ops_call0 hs27 (by kernel_rfl) (of_ok (hv := (viewAt_old hs27 hv)) (hz := h28) (ho := h29) B _) ?_
   rintro _ _ w31 ⟨b30, rfl, rfl⟩ hs32
   have hs33 := St.ap1 hs32
   have hs34 := St.f1 hs33
   have hs35 := St.tk1 hs34
   refine ops_done (by kernel_rfl) ⟨hs35, ?_⟩
   refine any_val (v := (.tuple #[(.pointer (some ⟨b30, 0, none⟩)), (.int .i64 0)])) (v' := (.tuple #[(.pointer (some ⟨b30, 0, none⟩)), (.int .i64 0)])) 6 (by kernel_rfl) (fun _ => by kernel_rfl) rfl hs35 ?_
   refine any_val (v := (.pointer (some ⟨b30, 0, none⟩))) (v' := (.pointer (some ⟨b30, 0, none⟩))) 7 (by kernel_rfl) (fun _ => by kernel_rfl) rfl hs35 ?_
   refine any_val (v := (.int .i64 0)) (v' := (.int .i64 0)) 8 (by kernel_rfl) (fun _ => by kernel_rfl) rfl hs35 ?_
   refine any_val (v := (.pointer (some ⟨b30, 0, none⟩))) (v' := (.pointer (some ⟨b30, 0, none⟩))) 9 (by kernel_rfl) (fun _ => by kernel_rfl) rfl hs35 ?_
   refine any_val (v := (.int .i64 0)) (v' := (.int .i64 0)) 10 (by kernel_rfl) (fun _ => by kernel_rfl) rfl hs35 ?_
   refine any_done (by kernel_rfl) ?_
   refine hK23 _ _ ?_
   refine W.seq fun K36 hK36 => ?_
   refine W.sr fun K37 hK37 => ?_
   refine zE 2 (hK37 _ _ ?_)
   refine W.cond_false false (by kernel_rfl) rfl ?_
   refine W.skip ?_
   refine hK36 _ _ ?_
   refine W.seq fun K38 hK38 => ?_
   have hs39 := hs33.drew
   refine W.regionD [(0, 0), (0, 0), (2, 2), (0, 0), (8, 8), (21, 21), (32, 32), (64, 64), (64, 64), (255, 128), (1023, 256)] (fun w_ => St B w [] w_ [blk b30 (.cells [(.pointer (some ⟨vb, 0, none⟩)), (.int .i64 (placeOf 6 gw gi gb 0)), (.int .i64 gi)].toArray 213 (0, 0)), blk b4 (.cells [(.int .i64 gw), (.int .i64 gi), (.int .i64 gb)].toArray 31 (0, 0))]) (by kernel_rfl) hs39 ?_
   refine any_val (v := (.pointer (some ⟨vb, 0, none⟩))) (v' := (.pointer (some ⟨vb, 0, none⟩))) 0 (by kernel_rfl) (fun _ => by kernel_rfl) rfl hs39 ?_
   refine any_R 1 (by kernel_rfl) (fun _ hS_ => runs_loadAgg (ad := ⟨b4, 0, none⟩) (cs := [(.int .i64 gw), (.int .i64 gi), (.int .i64 gb)]) (by kernel_rfl) (cells_sub (hS_.heapAt 1 rfl) rfl)) hs39 ?_
   refine any_val (v := (.pointer (some ⟨b4, 2, none⟩))) (v' := (.pointer (some ⟨b4, 2, none⟩))) 3 (by kernel_rfl) (fun _ => by kernel_rfl) rfl hs39 ?_
   refine any_R 4 (by kernel_rfl) (fun _ hS_ => runs_load (ad := ⟨b4, 2, none⟩) (v := (.int .i64 gb)) (by kernel_rfl) (hS_.cellAt 1 rfl rfl)) hs39 ?_
   refine any_step 2 (by kernel_rfl) (by kernel_rfl) ?_
   refine zC00 hs39 (lmap7_spec (gw := gw) (gi := gi) (gb := gb) B _) fun w40 hs42 => ?_
   refine ops_done (by kernel_rfl) ⟨hs42, ?_⟩
   refine any_step 5 (by kernel_rfl) (by kernel_rfl) ?_
   have h43 : (img.length : Int) ≤ 1000000000000 := by first | omega | (exact absurd hm (by assumption))
   have h44 : (0 ≤ ((placeOf 7 gw gi gb 0) : Int) ∧ ((placeOf 7 gw gi gb 0) : Int) < (img.length : Int)) ∧ (1 ≤ (gb : Int) ∧ (gb : Int) ≤ 1000000000000) ∧ ((gb : Int) - 1) / 64 < (img.length : Int) - ((placeOf 7 gw gi gb 0) : Int) := by first | omega | (exact absurd hm (by assumption))
   refine ops_call0 hs42 (by kernel_rfl) (of_ok (hv := (viewAt_old hs42 hv)) (hz := h43) (ho := h44) B _) ?_
   rintro _ _ w46 ⟨b45, rfl, rfl⟩ hs47
   have hs48 := St.ap1 hs47
   have hs49 := St.f2 hs48
   have hs50 := St.f2 hs49
   have hs51 := St.tk2 hs50
   refine ops_done (by kernel_rfl) ⟨hs51, ?_⟩
   refine any_val (v := (.tuple #[(.pointer (some ⟨b45, 0, none⟩)), (.int .i64 0)])) (v' := (.tuple #[(.pointer (some ⟨b45, 0, none⟩)), (.int .i64 0)])) 6 (by kernel_rfl) (fun _ => by kernel_rfl) rfl hs51 ?_
   refine any_val (v := (.pointer (some ⟨b45, 0, none⟩))) (v' := (.pointer (some ⟨b45, 0, none⟩))) 7 (by kernel_rfl) (fun _ => by kernel_rfl) rfl hs51 ?_
   refine any_val (v := (.int .i64 0)) (v' := (.int .i64 0)) 8 (by kernel_rfl) (fun _ => by kernel_rfl) rfl hs51 ?_
   refine any_val (v := (.pointer (some ⟨b45, 0, none⟩))) (v' := (.pointer (some ⟨b45, 0, none⟩))) 9 (by kernel_rfl) (fun _ => by kernel_rfl) rfl hs51 ?_
   refine any_val (v := (.int .i64 0)) (v' := (.int .i64 0)) 10 (by kernel_rfl) (fun _ => by kernel_rfl) rfl hs51 ?_
   refine any_done (by kernel_rfl) ?_
   refine hK38 _ _ ?_
   refine W.seq fun K52 hK52 => ?_
   refine W.sr fun K53 hK53 => ?_
   refine zE 2 (hK53 _ _ ?_)
   refine W.cond_false false (by kernel_rfl) rfl ?_
   refine W.skip ?_
   refine hK52 _ _ ?_
   refine W.sr fun K54 hK54 => ?_
   refine zR 1 ?_
   refine ops_R (runs_loadAgg (ad := ⟨b4, 0, none⟩) (cs := [(.int .i64 gw), (.int .i64 gi), (.int .i64 gb)]) (by kernel_rfl) (cells_sub (hs48.heapAt 2 rfl) rfl)) ?_
   refine zR 2 ?_
   refine zL ⟨b4, 1, none⟩ (.int .i64 gi) (hs48.cellAt 2 rfl rfl) ?_
   refine zR 3 ?_
   refine zL ⟨b4, 2, none⟩ (.int .i64 gb) (hs48.cellAt 2 rfl rfl) ?_
   refine zR 2 ?_
   refine zN [(.pointer (some ⟨vb, 0, none⟩)), (.int .i64 gw), (.int .i64 gi), (.int .i64 gb), (.pointer (some ⟨b30, 0, none⟩)), (.int .i64 gi), (.pointer (some ⟨b45, 0, none⟩)), (.int .i64 gb)] 208 hs48 fun b57 w55 hs56 => ?_
   refine zE 2 (hK54 _ _ ?_)
   refine W.ret ?_
   have hs58 := St.f1 hs56
   have hs59 := St.f2 hs58
   have hs60 := St.f2 hs59
   have hs61 := St.tk3 hs60
   refine ret_of (.tuple #[(.pointer (some ⟨b57, 0, none⟩)), (.int .i64 0)]) (by kernel_rfl) ⟨_, ⟨b57, b30, b45, rfl, rfl⟩, hs61⟩

theorem anew_err {vb : Nat} {img : List Int} {l : List (Int × Int)} {gw gi gb : Int} (B : Nat) (w : World) (hv : ViewAt (ptr vb) img l w) (hz : (img.length : Int) ≤ 1000000000000) (hN : ¬ (May gw gi gb ∧ wordsOf gw gi gb ≤ (img.length : Int))) : Spec Tryz.prog 115 #[(.pointer (some ⟨vb, 0, none⟩)), (.agg #[(.int .i64 gw), (.int .i64 gi), (.int .i64 gb)])] B w [] (fun v H' => v = .tuple #[.pointer none, .int .i64 (if May gw gi gb then 8 else 1)] ∧ H' = []) := by
 refine spec_Q Tryz.func115 rfl fun hs => ?_
 refine W.sr fun K1 hK1 => ?_
 refine zN [(.int .i64 gw), (.int .i64 gi), (.int .i64 gb)] 31 hs fun b4 w2 hs3 => ?_
 refine zE 2 (hK1 _ _ ?_)
 refine W.seq fun K5 hK5 => ?_
 refine W.block ?_
 refine W.sr fun K6 hK6 => ?_
 refine zE 3 (hK6 _ _ ?_)
 refine W.cond_false false (by kernel_rfl) rfl ?_
 refine W.sr fun K7 hK7 => ?_
 refine ops_R (runs_loadAgg (ad := ⟨b4, 0, none⟩) (cs := [(.int .i64 gw), (.int .i64 gi), (.int .i64 gb)]) (by kernel_rfl) (cells_sub (hs3.heapAt 0 rfl) rfl)) ?_
 refine zC00 hs3 (may_spec (gw := gw) (gi := gi) (gb := gb) B _) fun w8 hs10 => ?_
 refine zE 2 (hK7 _ _ ?_)
 refine W.cond (!(decide (May gw gi gb))) (by kernel_rfl) (fun h11 => ?_) (fun h11 => ?_)
 ·
  have h11p : ¬ (May gw gi gb) := of_decide_eq_false (bnot_true h11)
  refine W.sr fun K12 hK12 => ?_
  refine zE 2 (hK12 _ _ ?_)
  refine W.ret (ret_block (ret_seq ?_))
  have hs13 := St.tk0 hs10
  refine ret_of (.tuple #[(.pointer none), (.int .i64 1)]) (by kernel_rfl) ⟨_, ⟨congrArg (fun z => Value.tuple #[.pointer none, .int .i64 z]) (if_neg (by assumption)).symm, rfl⟩, hs13⟩
 ·
  have h11p : May gw gi gb := of_decide_eq_true (bnot_false h11)
  refine W.seq fun K14 hK14 => ?_
  have hs15 := hs10.drew
  refine W.regionD [(0, 0), (1, 1), (0, 0), (6, 4), (10, 10), (24, 16)] (fun w_ => St B w [] w_ [blk b4 (.cells [(.int .i64 gw), (.int .i64 gi), (.int .i64 gb)].toArray 31 (0, 0))]) (by kernel_rfl) hs15 ?_
  refine any_val (v := (.pointer (some ⟨vb, 0, none⟩))) (v' := (.pointer (some ⟨vb, 0, none⟩))) 0 (by kernel_rfl) (fun _ => by kernel_rfl) rfl hs15 ?_
  refine any_R 2 (by kernel_rfl) (fun _ hS_ => runs_loadAgg (ad := ⟨b4, 0, none⟩) (cs := [(.int .i64 gw), (.int .i64 gi), (.int .i64 gb)]) (by kernel_rfl) (cells_sub (hS_.heapAt 0 rfl) rfl)) hs15 ?_
  refine any_step 1 (by kernel_rfl) (by kernel_rfl) ?_
  refine zC00 hs15 (len_spec (hv := (viewAt_old hs15 hv)) B _) fun w16 hs18 => ?_
  refine ops_done (by kernel_rfl) ⟨hs18, ?_⟩
  refine any_step 3 (by kernel_rfl) (by kernel_rfl) ?_
  refine zC00 hs18 (lwords_spec (gw := gw) (gi := gi) (gb := gb) B _) fun w19 hs21 => ?_
  refine ops_done (by kernel_rfl) ⟨hs21, ?_⟩
  refine any_val (v := (.bool (decide ((img.length : Int) < (wordsOf gw gi gb))))) (v' := (.bool (decide ((img.length : Int) < (wordsOf gw gi gb))))) 4 (by kernel_rfl) (fun _ => by kernel_rfl) rfl hs21 ?_
  refine any_val (v := (.bool (decide ((img.length : Int) < (wordsOf gw gi gb))))) (v' := (.bool (decide ((img.length : Int) < (wordsOf gw gi gb))))) 5 (by kernel_rfl) (fun _ => by kernel_rfl) rfl hs21 ?_
  refine any_done (by kernel_rfl) ?_
  refine hK14 _ _ ?_
  refine W.cond (decide ((img.length : Int) < (wordsOf gw gi gb))) (by kernel_rfl) (fun h22 => ?_) (fun h22 => ?_)
  ·
   have h22p := of_decide_eq_true h22
   refine W.sr fun K23 hK23 => ?_
   refine zE 2 (hK23 _ _ ?_)
   refine W.ret (ret_block (ret_seq ?_))
   have hs24 := St.tk0 hs21
   refine ret_of (.tuple #[(.pointer none), (.int .i64 8)]) (by kernel_rfl) ⟨_, ⟨congrArg (fun z => Value.tuple #[.pointer none, .int .i64 z]) (if_pos (by assumption)).symm, rfl⟩, hs24⟩
  ·
   have h22p := of_decide_eq_false h22
   refine W.skip ?_
   refine normal_block ?_
   refine hK5 _ _ ?_
   refine W.seq fun K25 hK25 => ?_
   have hs26 := hs21.drew
   refine W.regionD [(0, 0), (0, 0), (2, 2), (0, 0), (8, 8), (21, 21), (32, 32), (64, 64), (64, 64), (255, 128), (1023, 256)] (fun w_ => St B w [] w_ [blk b4 (.cells [(.int .i64 gw), (.int .i64 gi), (.int .i64 gb)].toArray 31 (0, 0))]) (by kernel_rfl) hs26 ?_
   refine any_val (v := (.pointer (some ⟨vb, 0, none⟩))) (v' := (.pointer (some ⟨vb, 0, none⟩))) 0 (by kernel_rfl) (fun _ => by kernel_rfl) rfl hs26 ?_
   refine any_R 1 (by kernel_rfl) (fun _ hS_ => runs_loadAgg (ad := ⟨b4, 0, none⟩) (cs := [(.int .i64 gw), (.int .i64 gi), (.int .i64 gb)]) (by kernel_rfl) (cells_sub (hS_.heapAt 0 rfl) rfl)) hs26 ?_
   refine any_val (v := (.pointer (some ⟨b4, 1, none⟩))) (v' := (.pointer (some ⟨b4, 1, none⟩))) 3 (by kernel_rfl) (fun _ => by kernel_rfl) rfl hs26 ?_
   refine any_R 4 (by kernel_rfl) (fun _ hS_ => runs_load (ad := ⟨b4, 1, none⟩) (v := (.int .i64 gi)) (by kernel_rfl) (hS_.cellAt 0 rfl rfl)) hs26 ?_
   refine any_step 2 (by kernel_rfl) (by kernel_rfl) ?_
   refine zC00 hs26 (lmap6_spec (gw := gw) (gi := gi) (gb := gb) B _) fun w27 hs29 => ?_
   refine ops_done (by kernel_rfl) ⟨hs29, ?_⟩
   refine any_step 5 (by kernel_rfl) (by kernel_rfl) ?_
   have h30 : (img.length : Int) ≤ 1000000000000 := by first | omega | (exact absurd ⟨by assumption, by omega⟩ hN)
   have h31 : (0 ≤ ((placeOf 6 gw gi gb 0) : Int) ∧ ((placeOf 6 gw gi gb 0) : Int) < (img.length : Int)) ∧ (1 ≤ (gi : Int) ∧ (gi : Int) ≤ 1000000000000) ∧ ((gi : Int) - 1) / 64 < (img.length : Int) - ((placeOf 6 gw gi gb 0) : Int) := by first | omega | (exact absurd ⟨by assumption, by omega⟩ hN)
   refine ops_call0 hs29 (by kernel_rfl) (of_ok (hv := (viewAt_old hs29 hv)) (hz := h30) (ho := h31) B _) ?_
   rintro _ _ w33 ⟨b32, rfl, rfl⟩ hs34
   have hs35 := St.ap1 hs34
   have hs36 := St.f1 hs35
   have hs37 := St.tk1 hs36
   refine ops_done (by kernel_rfl) ⟨hs37, ?_⟩
   refine any_val (v := (.tuple #[(.pointer (some ⟨b32, 0, none⟩)), (.int .i64 0)])) (v' := (.tuple #[(.pointer (some ⟨b32, 0, none⟩)), (.int .i64 0)])) 6 (by kernel_rfl) (fun _ => by kernel_rfl) rfl hs37 ?_
   refine any_val (v := (.pointer (some ⟨b32, 0, none⟩))) (v' := (.pointer (some ⟨b32, 0, none⟩))) 7 (by kernel_rfl) (fun _ => by kernel_rfl) rfl hs37 ?_
   refine any_val (v := (.int .i64 0)) (v' := (.int .i64 0)) 8 (by kernel_rfl) (fun _ => by kernel_rfl) rfl hs37 ?_
   refine any_val (v := (.pointer (some ⟨b32, 0, none⟩))) (v' := (.pointer (some ⟨b32, 0, none⟩))) 9 (by kernel_rfl) (fun _ => by kernel_rfl) rfl hs37 ?_
   refine any_val (v := (.int .i64 0)) (v' := (.int .i64 0)) 10 (by kernel_rfl) (fun _ => by kernel_rfl) rfl hs37 ?_
   refine any_done (by kernel_rfl) ?_
   refine hK25 _ _ ?_
   refine W.seq fun K38 hK38 => ?_
   refine W.sr fun K39 hK39 => ?_
   refine zE 2 (hK39 _ _ ?_)
   refine W.cond_false false (by kernel_rfl) rfl ?_
   refine W.skip ?_
   refine hK38 _ _ ?_
   refine W.seq fun K40 hK40 => ?_
   have hs41 := hs35.drew
   refine W.regionD [(0, 0), (0, 0), (2, 2), (0, 0), (8, 8), (21, 21), (32, 32), (64, 64), (64, 64), (255, 128), (1023, 256)] (fun w_ => St B w [] w_ [blk b32 (.cells [(.pointer (some ⟨vb, 0, none⟩)), (.int .i64 (placeOf 6 gw gi gb 0)), (.int .i64 gi)].toArray 213 (0, 0)), blk b4 (.cells [(.int .i64 gw), (.int .i64 gi), (.int .i64 gb)].toArray 31 (0, 0))]) (by kernel_rfl) hs41 ?_
   refine any_val (v := (.pointer (some ⟨vb, 0, none⟩))) (v' := (.pointer (some ⟨vb, 0, none⟩))) 0 (by kernel_rfl) (fun _ => by kernel_rfl) rfl hs41 ?_
   refine any_R 1 (by kernel_rfl) (fun _ hS_ => runs_loadAgg (ad := ⟨b4, 0, none⟩) (cs := [(.int .i64 gw), (.int .i64 gi), (.int .i64 gb)]) (by kernel_rfl) (cells_sub (hS_.heapAt 1 rfl) rfl)) hs41 ?_
   refine any_val (v := (.pointer (some ⟨b4, 2, none⟩))) (v' := (.pointer (some ⟨b4, 2, none⟩))) 3 (by kernel_rfl) (fun _ => by kernel_rfl) rfl hs41 ?_
   refine any_R 4 (by kernel_rfl) (fun _ hS_ => runs_load (ad := ⟨b4, 2, none⟩) (v := (.int .i64 gb)) (by kernel_rfl) (hS_.cellAt 1 rfl rfl)) hs41 ?_
   refine any_step 2 (by kernel_rfl) (by kernel_rfl) ?_
   refine zC00 hs41 (lmap7_spec (gw := gw) (gi := gi) (gb := gb) B _) fun w42 hs44 => ?_
   refine ops_done (by kernel_rfl) ⟨hs44, ?_⟩
   refine any_step 5 (by kernel_rfl) (by kernel_rfl) ?_
   have h45 : (img.length : Int) ≤ 1000000000000 := by first | omega | (exact absurd ⟨by assumption, by omega⟩ hN)
   have h46 : (0 ≤ ((placeOf 7 gw gi gb 0) : Int) ∧ ((placeOf 7 gw gi gb 0) : Int) < (img.length : Int)) ∧ (1 ≤ (gb : Int) ∧ (gb : Int) ≤ 1000000000000) ∧ ((gb : Int) - 1) / 64 < (img.length : Int) - ((placeOf 7 gw gi gb 0) : Int) := by first | omega | (exact absurd ⟨by assumption, by omega⟩ hN)
   refine ops_call0 hs44 (by kernel_rfl) (of_ok (hv := (viewAt_old hs44 hv)) (hz := h45) (ho := h46) B _) ?_
   rintro _ _ w48 ⟨b47, rfl, rfl⟩ hs49
   have hs50 := St.ap1 hs49
   have hs51 := St.f2 hs50
   have hs52 := St.f2 hs51
   have hs53 := St.tk2 hs52
   refine ops_done (by kernel_rfl) ⟨hs53, ?_⟩
   refine any_val (v := (.tuple #[(.pointer (some ⟨b47, 0, none⟩)), (.int .i64 0)])) (v' := (.tuple #[(.pointer (some ⟨b47, 0, none⟩)), (.int .i64 0)])) 6 (by kernel_rfl) (fun _ => by kernel_rfl) rfl hs53 ?_
   refine any_val (v := (.pointer (some ⟨b47, 0, none⟩))) (v' := (.pointer (some ⟨b47, 0, none⟩))) 7 (by kernel_rfl) (fun _ => by kernel_rfl) rfl hs53 ?_
   refine any_val (v := (.int .i64 0)) (v' := (.int .i64 0)) 8 (by kernel_rfl) (fun _ => by kernel_rfl) rfl hs53 ?_
   refine any_val (v := (.pointer (some ⟨b47, 0, none⟩))) (v' := (.pointer (some ⟨b47, 0, none⟩))) 9 (by kernel_rfl) (fun _ => by kernel_rfl) rfl hs53 ?_
   refine any_val (v := (.int .i64 0)) (v' := (.int .i64 0)) 10 (by kernel_rfl) (fun _ => by kernel_rfl) rfl hs53 ?_
   refine any_done (by kernel_rfl) ?_
   refine hK40 _ _ ?_
   refine W.seq fun K54 hK54 => ?_
   refine W.sr fun K55 hK55 => ?_
   refine zE 2 (hK55 _ _ ?_)
   refine W.cond_false false (by kernel_rfl) rfl ?_
   refine W.skip ?_
   refine hK54 _ _ ?_
   refine W.sr fun K56 hK56 => ?_
   refine zR 1 ?_
   refine ops_R (runs_loadAgg (ad := ⟨b4, 0, none⟩) (cs := [(.int .i64 gw), (.int .i64 gi), (.int .i64 gb)]) (by kernel_rfl) (cells_sub (hs50.heapAt 2 rfl) rfl)) ?_
   refine zR 2 ?_
   refine zL ⟨b4, 1, none⟩ (.int .i64 gi) (hs50.cellAt 2 rfl rfl) ?_
   refine zR 3 ?_
   refine zL ⟨b4, 2, none⟩ (.int .i64 gb) (hs50.cellAt 2 rfl rfl) ?_
   refine zR 2 ?_
   refine zN [(.pointer (some ⟨vb, 0, none⟩)), (.int .i64 gw), (.int .i64 gi), (.int .i64 gb), (.pointer (some ⟨b32, 0, none⟩)), (.int .i64 gi), (.pointer (some ⟨b47, 0, none⟩)), (.int .i64 gb)] 208 hs50 fun b59 w57 hs58 => ?_
   refine zE 2 (hK56 _ _ ?_)
   refine W.ret ?_
   exfalso
   first | omega | (exact hN ⟨by assumption, by omega⟩)

end Go.Proofs.YtmmclabkkigiaaaGreatDoor

set_option linter.unusedVariables false
set_option maxRecDepth 20000
namespace Go.Proofs.YtmmclabkkigiaaaGreatDoor
open Go Go.RowKit
set_option linter.unusedSimpArgs false
set_option linter.unusedVariables false


def atakeb_M (img : List Int) (l : List (Int × Int)) (gw : Int) (gi : Int) (gb : Int) (ba : Int) : Option (Int × Int × List (Int × Int)) :=
 (atake1_M img l gw gi gb ba gb).bind fun r14 =>
some (r14.1, r14.2.1, r14.2.2)

theorem atakeb_walk {img : List Int} {l : List (Int × Int)} {gw : Int} {gi : Int} {gb : Int} {ia : Int} {ba : Int} {ab ib bb vb : Nat} {r : Int × Int × List (Int × Int)} (B : Nat) (w : World) (hG : 1 < B) (hT : CellsAt (some ⟨1, 0, none⟩) tab8 w) (hm : atakeb_M img l gw gi gb ba = some r) : Spec Tryz.prog 139 #[(.pointer (some ⟨ab, 0, none⟩))] B w [blk ab (.cells [(.pointer (some ⟨vb, 0, none⟩)), (.int .i64 gw), (.int .i64 gi), (.int .i64 gb), (.pointer (some ⟨ib, 0, none⟩)), (.int .i64 gi), (.pointer (some ⟨bb, 0, none⟩)), (.int .i64 gb)].toArray 208 (0, 0)), blk ib (.cells [(.pointer (some ⟨vb, 0, none⟩)), (.int .i64 ia), (.int .i64 gi)].toArray 213 (0, 0)), blk bb (.cells [(.pointer (some ⟨vb, 0, none⟩)), (.int .i64 ba), (.int .i64 gb)].toArray 213 (0, 0)), viewA (ptr vb) img l] (fun v H' => v = .tuple #[.int .i64 r.1, .int .i64 r.2.1] ∧ H' = [blk ab (.cells [(.pointer (some ⟨vb, 0, none⟩)), (.int .i64 gw), (.int .i64 gi), (.int .i64 gb), (.pointer (some ⟨ib, 0, none⟩)), (.int .i64 gi), (.pointer (some ⟨bb, 0, none⟩)), (.int .i64 gb)].toArray 208 (0, 0)), blk ib (.cells [(.pointer (some ⟨vb, 0, none⟩)), (.int .i64 ia), (.int .i64 gi)].toArray 213 (0, 0)), blk bb (.cells [(.pointer (some ⟨vb, 0, none⟩)), (.int .i64 ba), (.int .i64 gb)].toArray 213 (0, 0)), viewA (ptr vb) img r.2.2]) := by
 refine spec_W Tryz.func139 rfl fun l0 hs => ?_
 unfold atakeb_M at hm
 refine W.sr fun K1 hK1 => ?_
 refine zN [(.pointer (some ⟨ab, 0, none⟩))] 192 hs fun b4 w2 hs3 => ?_
 refine zE 2 (hK1 _ _ ?_)
 refine W.seq fun K5 hK5 => ?_
 refine W.sr fun K6 hK6 => ?_
 refine zL ⟨b4, 0, none⟩ (.pointer (some ⟨ab, 0, none⟩)) (hs3.cellAt 0 rfl rfl) ?_
 refine zE 1 (hK6 _ _ ?_)
 refine W.cond_false false (by kernel_rfl) rfl ?_
 refine W.skip ?_
 refine hK5 _ _ ?_
 refine W.seq fun K7 hK7 => ?_
 have hs8 := hs3.drew
 have hs9 := St.f3 hs8
 have hs10 := St.f3 hs9
 have hs11 := St.f3 hs10
 have hs12 := St.f3 hs11
 have hs13 := St.tk4 hs12
 refine W.regionD [(0, 0), (0, 0), (2, 2), (4, 4), (8, 8), (0, 0), (49, 49), (64, 64), (64, 64), (511, 128), (1023, 256)] (fun w_ => St B w l0 w_ [blk b4 (.cells [(.pointer (some ⟨ab, 0, none⟩))].toArray 192 (0, 0)), blk ab (.cells [(.pointer (some ⟨vb, 0, none⟩)), (.int .i64 gw), (.int .i64 gi), (.int .i64 gb), (.pointer (some ⟨ib, 0, none⟩)), (.int .i64 gi), (.pointer (some ⟨bb, 0, none⟩)), (.int .i64 gb)].toArray 208 (0, 0)), blk ib (.cells [(.pointer (some ⟨vb, 0, none⟩)), (.int .i64 ia), (.int .i64 gi)].toArray 213 (0, 0)), blk bb (.cells [(.pointer (some ⟨vb, 0, none⟩)), (.int .i64 ba), (.int .i64 gb)].toArray 213 (0, 0))]) (by kernel_rfl) hs13 ?_
 refine any_R 0 (by kernel_rfl) (fun _ hS_ => runs_load (ad := ⟨b4, 0, none⟩) (v := (.pointer (some ⟨ab, 0, none⟩))) (by kernel_rfl) (hS_.cellAt 0 rfl rfl)) hs13 ?_
 refine any_R 1 (by kernel_rfl) (fun _ hS_ => runs_load (ad := ⟨b4, 0, none⟩) (v := (.pointer (some ⟨ab, 0, none⟩))) (by kernel_rfl) (hS_.cellAt 0 rfl rfl)) hs13 ?_
 refine any_val (v := (.pointer (some ⟨ab, 0, none⟩))) (v' := (.pointer (some ⟨ab, 0, none⟩))) 2 (by kernel_rfl) (fun _ => by kernel_rfl) rfl hs13 ?_
 refine any_val (v := (.pointer (some ⟨ab, 6, none⟩))) (v' := (.pointer (some ⟨ab, 6, none⟩))) 3 (by kernel_rfl) (fun _ => by kernel_rfl) rfl hs13 ?_
 refine any_R 4 (by kernel_rfl) (fun _ hS_ => runs_loadAgg (ad := ⟨ab, 6, none⟩) (cs := [(.pointer (some ⟨bb, 0, none⟩)), (.int .i64 gb)]) (by kernel_rfl) (cells_sub (hS_.heapAt 1 rfl) rfl)) hs13 ?_
 refine any_val (v := (.func (.func 147) #[] #[(.pointer (some ⟨b4, 0, none⟩))])) (v' := (.func (.func 147) #[] #[(.pointer (some ⟨b4, 0, none⟩))])) 5 (by kernel_rfl) (fun _ => by kernel_rfl) rfl hs13 ?_
 refine any_step 6 (by kernel_rfl) (by kernel_rfl) ?_
 obtain ⟨r14, h15, hm⟩ := bind_some hm
 have hs16 := St.f4 hs8
 have hs17 := St.f1 hs16
 have hs18 := St.f4 hs17
 have hs19 := St.f3 hs18
 refine ops_call4 hs19 (by kernel_rfl) (atake1_walk (ab := ab) (ib := ib) (bb := bb) (vb := vb) (mb := bb) (img := img) (l := l) (gw := gw) (gi := gi) (gb := gb) (at_ := ba) (many := gb) (pm := gb) (cb := b4) (hG := hG) (hT := (hs8.oldCellsB hG hT)) (hm := h15) B _) ?_
 rintro _ _ w20 ⟨rfl, rfl⟩ hs21
 have hs22 := St.ap4 hs21
 have hs23 := St.f1 hs22
 have hs24 := St.f4 hs23
 have hs25 := St.f2 hs24
 have hs26 := St.f3 hs25
 have hs27 := St.tk4 hs26
 refine ops_done (by kernel_rfl) ⟨hs27, ?_⟩
 refine any_val (v := (.int .i64 r14.1)) (v' := (.int .i64 r14.1)) 7 (by kernel_rfl) (fun _ => by kernel_rfl) rfl hs27 ?_
 refine any_val (v := (.int .i64 r14.2.1)) (v' := (.int .i64 r14.2.1)) 8 (by kernel_rfl) (fun _ => by kernel_rfl) rfl hs27 ?_
 refine any_val (v := (.int .i64 r14.1)) (v' := (.int .i64 r14.1)) 9 (by kernel_rfl) (fun _ => by kernel_rfl) rfl hs27 ?_
 refine any_val (v := (.int .i64 r14.2.1)) (v' := (.int .i64 r14.2.1)) 10 (by kernel_rfl) (fun _ => by kernel_rfl) rfl hs27 ?_
 refine any_done (by kernel_rfl) ?_
 refine hK7 _ _ ?_
 refine W.ret ?_
 obtain rfl := some_inj hm
 have hs28 := St.f3 hs22
 have hs29 := St.f2 hs28
 have hs30 := St.f4 hs29
 have hs31 := St.f3 hs30
 have hs32 := St.tk4 hs31
 refine ret_of (.tuple #[(.int .i64 r14.1), (.int .i64 r14.2.1)]) (by kernel_rfl) ⟨_, ⟨rfl, rfl⟩, hs32⟩


def agiveb_M (img : List Int) (l : List (Int × Int)) (gb : Int) (ba : Int) (n_ : Int) : Option (Int × List (Int × Int)) :=
 (pgive_M img l ba gb gb n_).bind fun r5 =>
some (r5.1, r5.2)

theorem agiveb_walk {img : List Int} {l : List (Int × Int)} {gw : Int} {gi : Int} {gb : Int} {ia : Int} {ba : Int} {n_ : Int} {ab ib bb vb : Nat} {r : Int × List (Int × Int)} (B : Nat) (w : World) (hm : agiveb_M img l gb ba n_ = some r) : Spec Tryz.prog 121 #[(.pointer (some ⟨ab, 0, none⟩)), (.int .i64 n_)] B w [blk ab (.cells [(.pointer (some ⟨vb, 0, none⟩)), (.int .i64 gw), (.int .i64 gi), (.int .i64 gb), (.pointer (some ⟨ib, 0, none⟩)), (.int .i64 gi), (.pointer (some ⟨bb, 0, none⟩)), (.int .i64 gb)].toArray 208 (0, 0)), blk ib (.cells [(.pointer (some ⟨vb, 0, none⟩)), (.int .i64 ia), (.int .i64 gi)].toArray 213 (0, 0)), blk bb (.cells [(.pointer (some ⟨vb, 0, none⟩)), (.int .i64 ba), (.int .i64 gb)].toArray 213 (0, 0)), viewA (ptr vb) img l] (fun v H' => v = .int .i64 r.1 ∧ H' = [blk ab (.cells [(.pointer (some ⟨vb, 0, none⟩)), (.int .i64 gw), (.int .i64 gi), (.int .i64 gb), (.pointer (some ⟨ib, 0, none⟩)), (.int .i64 gi), (.pointer (some ⟨bb, 0, none⟩)), (.int .i64 gb)].toArray 208 (0, 0)), blk ib (.cells [(.pointer (some ⟨vb, 0, none⟩)), (.int .i64 ia), (.int .i64 gi)].toArray 213 (0, 0)), blk bb (.cells [(.pointer (some ⟨vb, 0, none⟩)), (.int .i64 ba), (.int .i64 gb)].toArray 213 (0, 0)), viewA (ptr vb) img r.2]) := by
 refine spec_W Tryz.func121 rfl fun l0 hs => ?_
 unfold agiveb_M at hm
 refine W.sr fun K1 hK1 => ?_
 refine zE 1 (hK1 _ _ ?_)
 refine W.seq fun K2 hK2 => ?_
 refine W.sr fun K3 hK3 => ?_
 refine zE 2 (hK3 _ _ ?_)
 refine W.cond_false false (by kernel_rfl) rfl ?_
 refine W.skip ?_
 refine hK2 _ _ ?_
 refine W.sr fun K4 hK4 => ?_
 refine zR 3 ?_
 refine ops_R (runs_loadAgg (ad := ⟨ab, 6, none⟩) (cs := [(.pointer (some ⟨bb, 0, none⟩)), (.int .i64 gb)]) (by kernel_rfl) (cells_sub (hs.heapAt 0 rfl) rfl)) ?_
 refine zR 1 ?_
 obtain ⟨r5, h6, hm⟩ := bind_some hm
 have hs7 := St.f3 hs
 have hs8 := St.f3 hs7
 refine zC22 hs8 (pgive_walk (hm := h6) B _) fun w9 hs11 => ?_
 refine zE 1 (hK4 _ _ ?_)
 refine W.ret ?_
 obtain rfl := some_inj hm
 have hs12 := St.f1 hs11
 have hs13 := St.f1 hs12
 have hs14 := St.f3 hs13
 have hs15 := St.f3 hs14
 refine ret_of (.int .i64 r5.1) (by kernel_rfl) ⟨_, ⟨rfl, rfl⟩, hs15⟩

def afree_M (img : List Int) (l : List (Int × Int)) (gi : Int) (gb : Int) (ia : Int) (ba : Int) : Option (Int × Int) :=
 (pfree_M img l ia gi gi).bind fun r6 =>
(pfree_M img l ba gb gb).bind fun r11 =>
some (r6, r11)

theorem afree_walk {img : List Int} {l : List (Int × Int)} {gw : Int} {gi : Int} {gb : Int} {ia : Int} {ba : Int} {ab ib bb vb : Nat} {r : Int × Int} (B : Nat) (w : World) (hab : w.heap[ab]? = some (.cells [(.pointer (some ⟨vb, 0, none⟩)), (.int .i64 gw), (.int .i64 gi), (.int .i64 gb), (.pointer (some ⟨ib, 0, none⟩)), (.int .i64 gi), (.pointer (some ⟨bb, 0, none⟩)), (.int .i64 gb)].toArray 208 (0, 0))) (hib : w.heap[ib]? = some (.cells [(.pointer (some ⟨vb, 0, none⟩)), (.int .i64 ia), (.int .i64 gi)].toArray 213 (0, 0))) (hbb : w.heap[bb]? = some (.cells [(.pointer (some ⟨vb, 0, none⟩)), (.int .i64 ba), (.int .i64 gb)].toArray 213 (0, 0))) (hv : ViewAt (ptr vb) img l w) (hm : afree_M img l gi gb ia ba = some r) : Spec Tryz.prog 116 #[(.pointer (some ⟨ab, 0, none⟩))] B w [] (fun v H' => v = .tuple #[.int .i64 r.1, .int .i64 r.2] ∧ H' = []) := by
 refine spec_Q Tryz.func116 rfl fun hs => ?_
 unfold afree_M at hm
 refine W.sr fun K1 hK1 => ?_
 refine zE 2 (hK1 _ _ ?_)
 refine W.seq fun K2 hK2 => ?_
 refine W.sr fun K3 hK3 => ?_
 refine zE 2 (hK3 _ _ ?_)
 refine W.cond_false false (by kernel_rfl) rfl ?_
 refine W.skip ?_
 refine hK2 _ _ ?_
 refine W.seq fun K4 hK4 => ?_
 have hs5 := hs.drew
 refine W.regionD [(0, 0), (1, 1), (2, 2), (4, 4), (8, 8), (0, 0), (32, 32), (64, 64), (128, 128), (272, 256), (543, 16), (2047, 512)] (fun w_ => St B w [] w_ []) (by kernel_rfl) hs5 ?_
 refine any_val (v := (.pointer (some ⟨ab, 0, none⟩))) (v' := (.pointer (some ⟨ab, 0, none⟩))) 0 (by kernel_rfl) (fun _ => by kernel_rfl) rfl hs5 ?_
 refine any_val (v := (.pointer (some ⟨ab, 0, none⟩))) (v' := (.pointer (some ⟨ab, 0, none⟩))) 1 (by kernel_rfl) (fun _ => by kernel_rfl) rfl hs5 ?_
 refine any_val (v := (.pointer (some ⟨ab, 4, none⟩))) (v' := (.pointer (some ⟨ab, 4, none⟩))) 2 (by kernel_rfl) (fun _ => by kernel_rfl) rfl hs5 ?_
 refine any_R 3 (by kernel_rfl) (fun _ hS_ => runs_loadAgg (ad := ⟨ab, 4, none⟩) (cs := [(.pointer (some ⟨ib, 0, none⟩)), (.int .i64 gi)]) (by kernel_rfl) (cells_sub (hS_.old hab) rfl)) hs5 ?_
 refine any_val (v := (.pointer (some ⟨ab, 0, none⟩))) (v' := (.pointer (some ⟨ab, 0, none⟩))) 5 (by kernel_rfl) (fun _ => by kernel_rfl) rfl hs5 ?_
 refine any_val (v := (.pointer (some ⟨ab, 0, none⟩))) (v' := (.pointer (some ⟨ab, 0, none⟩))) 6 (by kernel_rfl) (fun _ => by kernel_rfl) rfl hs5 ?_
 refine any_val (v := (.pointer (some ⟨ab, 6, none⟩))) (v' := (.pointer (some ⟨ab, 6, none⟩))) 7 (by kernel_rfl) (fun _ => by kernel_rfl) rfl hs5 ?_
 refine any_R 8 (by kernel_rfl) (fun _ hS_ => runs_loadAgg (ad := ⟨ab, 6, none⟩) (cs := [(.pointer (some ⟨bb, 0, none⟩)), (.int .i64 gb)]) (by kernel_rfl) (cells_sub (hS_.old hab) rfl)) hs5 ?_
 refine any_step 4 (by kernel_rfl) (by kernel_rfl) ?_
 obtain ⟨r6, h7, hm⟩ := bind_some hm
 refine zC00 hs5 (pfree_walk (hmb := (hs5.old hib)) (hv := (viewAt_old hs5 hv)) (hm := h7) B _) fun w8 hs10 => ?_
 refine ops_done (by kernel_rfl) ⟨hs10, ?_⟩
 refine any_step 9 (by kernel_rfl) (by kernel_rfl) ?_
 obtain ⟨r11, h12, hm⟩ := bind_some hm
 refine zC00 hs10 (pfree_walk (hmb := (hs10.old hbb)) (hv := (viewAt_old hs10 hv)) (hm := h12) B _) fun w13 hs15 => ?_
 refine ops_done (by kernel_rfl) ⟨hs15, ?_⟩
 refine any_val (v := (.int .i64 r6)) (v' := (.int .i64 r6)) 10 (by kernel_rfl) (fun _ => by kernel_rfl) rfl hs15 ?_
 refine any_val (v := (.int .i64 r11)) (v' := (.int .i64 r11)) 11 (by kernel_rfl) (fun _ => by kernel_rfl) rfl hs15 ?_
 refine any_done (by kernel_rfl) ?_
 refine hK4 _ _ ?_
 refine W.ret ?_
 obtain rfl := some_inj hm
 refine ret_of (.tuple #[(.int .i64 r6), (.int .i64 r11)]) (by kernel_rfl) ⟨_, ⟨rfl, rfl⟩, hs15⟩



theorem atakeb_nil  (B : Nat) (w : World) : Spec Tryz.prog 139 #[(.pointer none)] B w [] (fun v H' => v = (.tuple #[(.int .i64 0), (.int .i64 2)]) ∧ H' = []) := by
 refine spec_Q Tryz.func139 rfl fun hs => ?_
 refine W.sr fun K1 hK1 => ?_
 refine zN [(.pointer none)] 192 hs fun b4 w2 hs3 => ?_
 refine zE 2 (hK1 _ _ ?_)
 refine W.seq fun K5 hK5 => ?_
 refine W.sr fun K6 hK6 => ?_
 refine zL ⟨b4, 0, none⟩ (.pointer none) (hs3.cellAt 0 rfl rfl) ?_
 refine zE 1 (hK6 _ _ ?_)
 refine W.cond_true true (by kernel_rfl) rfl ?_
 refine W.sr fun K7 hK7 => ?_
 refine zE 2 (hK7 _ _ ?_)
 refine W.ret (ret_seq ?_)
 have hs8 := St.tk0 hs3
 refine ret_of (.tuple #[(.int .i64 0), (.int .i64 2)]) (by kernel_rfl) ⟨_, ⟨rfl, rfl⟩, hs8⟩

theorem afree_nil  (B : Nat) (w : World) : Spec Tryz.prog 116 #[(.pointer none)] B w [] (fun v H' => v = (.tuple #[(.int .i64 0), (.int .i64 0)]) ∧ H' = []) := by
 refine spec_Q Tryz.func116 rfl fun hs => ?_
 refine W.sr fun K1 hK1 => ?_
 refine zE 2 (hK1 _ _ ?_)
 refine W.seq fun K2 hK2 => ?_
 refine W.sr fun K3 hK3 => ?_
 refine zE 2 (hK3 _ _ ?_)
 refine W.cond_true true (by kernel_rfl) rfl ?_
 refine W.sr fun K4 hK4 => ?_
 refine zE 2 (hK4 _ _ ?_)
 refine W.ret (ret_seq ?_)
 refine ret_of (.tuple #[(.int .i64 0), (.int .i64 0)]) (by kernel_rfl) ⟨_, ⟨rfl, rfl⟩, hs⟩


theorem agiveb_nil {n_ : Int} (B : Nat) (w : World) : Spec Tryz.prog 121 #[(.pointer none), (.int .i64 n_)] B w [] (fun v H' => v = (.int .i64 2) ∧ H' = []) := by
 refine spec_Q Tryz.func121 rfl fun hs => ?_
 refine W.sr fun K1 hK1 => ?_
 refine zE 1 (hK1 _ _ ?_)
 refine W.seq fun K2 hK2 => ?_
 refine W.sr fun K3 hK3 => ?_
 refine zE 2 (hK3 _ _ ?_)
 refine W.cond_true true (by kernel_rfl) rfl ?_
 refine W.sr fun K4 hK4 => ?_
 refine zE 1 (hK4 _ _ ?_)
 refine W.ret (ret_seq ?_)
 refine ret_of (.int .i64 2) (by kernel_rfl) ⟨_, ⟨rfl, rfl⟩, hs⟩


end Go.Proofs.YtmmclabkkigiaaaGreatDoor

set_option linter.unusedVariables false
set_option maxRecDepth 20000
set_option maxHeartbeats 2000000
namespace Go.Proofs.YtmmclabkkigiaaaGreatDoor
open Go Go.RowKit
set_option linter.unusedSimpArgs false
set_option linter.unusedVariables false

def bown_M (gw : Int) (gi : Int) (gb : Int) (n_ : Int) (w_ : Int) : Option (Int) :=
 (some (placeOf 8 gw gi gb n_)).bind fun r4 =>
need (-9223372036854775808 ≤ (r4 + w_) ∧ (r4 + w_) ≤ 9223372036854775807) <|
some (r4 + w_)

theorem bown_walk {img : List Int} {l : List (Int × Int)} {gw : Int} {gi : Int} {gb : Int} {n_ : Int} {w_ : Int} {mb vb : Nat} {r : Int} (B : Nat) (w : World) (hmb : w.heap[mb]? = some (.cells [(.pointer (some ⟨vb, 0, none⟩)), (.int .i64 gw), (.int .i64 gi), (.int .i64 gb), (.int .i64 n_)].toArray 164 (0, 0))) (hv : ViewAt (ptr vb) img l w) (hm : bown_M gw gi gb n_ w_ = some r) : Spec Tryz.prog 95 #[(.pointer (some ⟨mb, 0, none⟩)), (.int .i64 w_)] B w [] (fun v H' => v = (.int .i64 r) ∧ H' = []) := by
 refine spec_Q Tryz.func95 rfl fun hs => ?_
 unfold bown_M at hm
 refine W.sr fun K1 hK1 => ?_
 refine zE 1 (hK1 _ _ ?_)
 refine W.seq fun K2 hK2 => ?_
 have hs3 := hs.drew
 refine W.regionD [(0, 0), (1, 1), (2, 2), (4, 4), (0, 0), (16, 16), (32, 32), (64, 64), (136, 136), (0, 0), (768, 768), (2047, 1024)] (fun w_ => St B w [] w_ []) (by kernel_rfl) hs3 ?_
 refine any_val (v := (.pointer (some ⟨mb, 0, none⟩))) (v' := (.pointer (some ⟨mb, 0, none⟩))) 0 (by kernel_rfl) (fun _ => by kernel_rfl) rfl hs3 ?_
 refine any_val (v := (.pointer (some ⟨mb, 0, none⟩))) (v' := (.pointer (some ⟨mb, 0, none⟩))) 1 (by kernel_rfl) (fun _ => by kernel_rfl) rfl hs3 ?_
 refine any_val (v := (.pointer (some ⟨mb, 1, none⟩))) (v' := (.pointer (some ⟨mb, 1, none⟩))) 2 (by kernel_rfl) (fun _ => by kernel_rfl) rfl hs3 ?_
 refine any_R 3 (by kernel_rfl) (fun _ hS_ => runs_loadAgg (ad := ⟨mb, 1, none⟩) (cs := [(.int .i64 gw), (.int .i64 gi), (.int .i64 gb)]) (by kernel_rfl) (cells_sub (hS_.old hmb) rfl)) hs3 ?_
 refine any_val (v := (.pointer (some ⟨mb, 0, none⟩))) (v' := (.pointer (some ⟨mb, 0, none⟩))) 4 (by kernel_rfl) (fun _ => by kernel_rfl) rfl hs3 ?_
 refine any_val (v := (.pointer (some ⟨mb, 0, none⟩))) (v' := (.pointer (some ⟨mb, 0, none⟩))) 5 (by kernel_rfl) (fun _ => by kernel_rfl) rfl hs3 ?_
 refine any_val (v := (.pointer (some ⟨mb, 4, none⟩))) (v' := (.pointer (some ⟨mb, 4, none⟩))) 6 (by kernel_rfl) (fun _ => by kernel_rfl) rfl hs3 ?_
 refine any_R 7 (by kernel_rfl) (fun _ hS_ => runs_load (ad := ⟨mb, 4, none⟩) (v := (.int .i64 n_)) (by kernel_rfl) (cell_of_blk (hS_.old hmb) rfl)) hs3 ?_
 refine any_val (v := (.int .i64 w_)) (v' := (.int .i64 w_)) 9 (by kernel_rfl) (fun _ => by kernel_rfl) rfl hs3 ?_
 refine any_step 8 (by kernel_rfl) (by kernel_rfl) ?_
 obtain ⟨r4, h5, hm⟩ := bind_some hm
 replace h5 := some_inj h5
 refine ops_call0 hs3 (by kernel_rfl) (inodeat_spec (gw := gw) (gi := gi) (gb := gb) (n_ := n_) B _) ?_
 rintro _ _ w6 ⟨hv8, hH9⟩ hs7
 rw [h5] at hv8
 try rw [h5] at hH9
 subst hv8 hH9
 have hs10 := St.ap0 hs7
 refine ops_done (by kernel_rfl) ⟨hs10, ?_⟩
 obtain ⟨h11, hm⟩ := need_some hm
 refine any_val (v := .int .i64 (IntKind.i64.wrap (r4 + w_))) (v' := .int .i64 (r4 + w_)) 10 (by kernel_rfl) (fun _ => by kernel_rfl) (congrArg (Value.int .i64) (wrap_i64 h11.1 h11.2)) hs10 ?_
 refine any_val (v := (.int .i64 (r4 + w_))) (v' := (.int .i64 (r4 + w_))) 11 (by kernel_rfl) (fun _ => by kernel_rfl) rfl hs10 ?_
 refine any_done (by kernel_rfl) ?_
 refine hK2 _ _ ?_
 refine W.ret ?_
 obtain rfl := some_inj hm
 refine ret_of (.int .i64 (r4 + w_)) (by kernel_rfl) ⟨_, ⟨rfl, rfl⟩, hs10⟩

end Go.Proofs.YtmmclabkkigiaaaGreatDoor

set_option linter.unusedVariables false
set_option maxRecDepth 20000
set_option maxHeartbeats 2000000
namespace Go.Proofs.YtmmclabkkigiaaaGreatDoor
open Go Go.RowKit
set_option linter.unusedSimpArgs false
set_option linter.unusedVariables false

def bchain_M (img : List Int) (l : List (Int × Int)) (gw : Int) (gi : Int) (gb : Int) (n_ : Int) : Option (Int) :=
 (bown_M gw gi gb n_ 8).bind fun r4 =>
need (-9223372036854775808 ≤ (vget img l r4) ∧ (vget img l r4) ≤ 9223372036854775807) <|
some (vget img l r4)

theorem bchain_walk {img : List Int} {l : List (Int × Int)} {gw : Int} {gi : Int} {gb : Int} {n_ : Int} {mb vb : Nat} {r : Int} (B : Nat) (w : World) (hmb : w.heap[mb]? = some (.cells [(.pointer (some ⟨vb, 0, none⟩)), (.int .i64 gw), (.int .i64 gi), (.int .i64 gb), (.int .i64 n_)].toArray 164 (0, 0))) (hv : ViewAt (ptr vb) img l w) (hm : bchain_M img l gw gi gb n_ = some r) : Spec Tryz.prog 93 #[(.pointer (some ⟨mb, 0, none⟩))] B w [] (fun v H' => v = (.int .i64 r) ∧ H' = []) := by
 refine spec_Q Tryz.func93 rfl fun hs => ?_
 unfold bchain_M at hm
 refine W.sr fun K1 hK1 => ?_
 refine zE 1 (hK1 _ _ ?_)
 refine W.seq fun K2 hK2 => ?_
 have hs3 := hs.drew
 refine W.regionD [(0, 0), (1, 1), (2, 2), (4, 4), (0, 0), (16, 16), (40, 40), (64, 64), (255, 128)] (fun w_ => St B w [] w_ []) (by kernel_rfl) hs3 ?_
 refine any_val (v := (.pointer (some ⟨mb, 0, none⟩))) (v' := (.pointer (some ⟨mb, 0, none⟩))) 0 (by kernel_rfl) (fun _ => by kernel_rfl) rfl hs3 ?_
 refine any_val (v := (.pointer (some ⟨mb, 0, none⟩))) (v' := (.pointer (some ⟨mb, 0, none⟩))) 1 (by kernel_rfl) (fun _ => by kernel_rfl) rfl hs3 ?_
 refine any_val (v := (.pointer (some ⟨mb, 0, none⟩))) (v' := (.pointer (some ⟨mb, 0, none⟩))) 2 (by kernel_rfl) (fun _ => by kernel_rfl) rfl hs3 ?_
 refine any_R 3 (by kernel_rfl) (fun _ hS_ => runs_load (ad := ⟨mb, 0, none⟩) (v := (.pointer (some ⟨vb, 0, none⟩))) (by kernel_rfl) (cell_of_blk (hS_.old hmb) rfl)) hs3 ?_
 refine any_val (v := (.pointer (some ⟨mb, 0, none⟩))) (v' := (.pointer (some ⟨mb, 0, none⟩))) 4 (by kernel_rfl) (fun _ => by kernel_rfl) rfl hs3 ?_
 refine any_step 5 (by kernel_rfl) (by kernel_rfl) ?_
 obtain ⟨r4, h5, hm⟩ := bind_some hm
 refine zC00 hs3 (bown_walk (w_ := 8) (img := img) (l := l) (gw := gw) (gi := gi) (gb := gb) (n_ := n_) (hmb := (hs3.old hmb)) (hv := (viewAt_old hs3 hv)) (hm := h5) B _) fun w6 hs8 => ?_
 refine ops_done (by kernel_rfl) ⟨hs8, ?_⟩
 refine any_step 6 (by kernel_rfl) (by kernel_rfl) ?_
 refine zC00 hs8 (get_spec (at_ := r4) (hv := (viewAt_old hs8 hv)) B _) fun w9 hs11 => ?_
 refine ops_done (by kernel_rfl) ⟨hs11, ?_⟩
 obtain ⟨h12, hm⟩ := need_some hm
 refine any_val (v := .int .i64 (IntKind.i64.wrap (vget img l r4))) (v' := .int .i64 (vget img l r4)) 7 (by kernel_rfl) (fun _ => by kernel_rfl) (congrArg (Value.int .i64) (wrap_i64 h12.1 h12.2)) hs11 ?_
 refine any_val (v := (.int .i64 (vget img l r4))) (v' := (.int .i64 (vget img l r4))) 8 (by kernel_rfl) (fun _ => by kernel_rfl) rfl hs11 ?_
 refine any_done (by kernel_rfl) ?_
 refine hK2 _ _ ?_
 refine W.ret ?_
 obtain rfl := some_inj hm
 refine ret_of (.int .i64 (vget img l r4)) (by kernel_rfl) ⟨_, ⟨rfl, rfl⟩, hs11⟩

def bdirect_M (gw : Int) (gi : Int) (gb : Int) (n_ : Int) (k_ : Int) : Option (Int × Bool) :=
 need (-9223372036854775808 ≤ (4 + k_) ∧ (4 + k_) ≤ 9223372036854775807) <|
(bown_M gw gi gb n_ (4 + k_)).bind fun r4 =>
some (r4, true)

theorem bdirect_walk {img : List Int} {l : List (Int × Int)} {gw : Int} {gi : Int} {gb : Int} {n_ : Int} {k_ : Int} {mb vb : Nat} {r : Int × Bool} (B : Nat) (w : World) (hmb : w.heap[mb]? = some (.cells [(.pointer (some ⟨vb, 0, none⟩)), (.int .i64 gw), (.int .i64 gi), (.int .i64 gb), (.int .i64 n_)].toArray 164 (0, 0))) (hv : ViewAt (ptr vb) img l w) (hm : bdirect_M gw gi gb n_ k_ = some r) : Spec Tryz.prog 119 #[(.pointer (some ⟨mb, 0, none⟩)), (.int .i64 k_)] B w [] (fun v H' => v = (.tuple #[(.int .i64 r.1), (.bool r.2)]) ∧ H' = []) := by
 refine spec_Q Tryz.func119 rfl fun hs => ?_
 unfold bdirect_M at hm
 refine W.sr fun K1 hK1 => ?_
 refine zE 2 (hK1 _ _ ?_)
 refine W.sr fun K2 hK2 => ?_
 refine zR 2 ?_
 obtain ⟨h3, hm⟩ := need_some hm
 refine zI _ (wrap_i64 h3.1 h3.2) ?_
 obtain ⟨r4, h5, hm⟩ := bind_some hm
 refine zC00 hs (bown_walk (w_ := (4 + k_)) (img := img) (l := l) (gw := gw) (gi := gi) (gb := gb) (n_ := n_) (hmb := (hs.old hmb)) (hv := (viewAt_old hs hv)) (hm := h5) B _) fun w6 hs8 => ?_
 refine zE 2 (hK2 _ _ ?_)
 refine W.ret ?_
 obtain rfl := some_inj hm
 refine ret_of (.tuple #[(.int .i64 r4), (.bool true)]) (by kernel_rfl) ⟨_, ⟨rfl, rfl⟩, hs8⟩

end Go.Proofs.YtmmclabkkigiaaaGreatDoor

set_option linter.unusedVariables false
set_option maxRecDepth 20000
set_option maxHeartbeats 2000000
namespace Go.Proofs.YtmmclabkkigiaaaGreatDoor
open Go Go.RowKit
set_option linter.unusedSimpArgs false
set_option linter.unusedVariables false

def bchained_M (img : List Int) (l : List (Int × Int)) (gw : Int) (gi : Int) (gb : Int) (n_ : Int) (k_ : Int) : Option (Int × Bool) :=
 (bchain_M img l gw gi gb n_).bind fun r3 =>
need (-9223372036854775808 ≤ ((placeOf 9 gw gi gb r3) + k_) ∧ ((placeOf 9 gw gi gb r3) + k_) ≤ 9223372036854775807) <|
need (-9223372036854775808 ≤ (((placeOf 9 gw gi gb r3) + k_) - 4) ∧ (((placeOf 9 gw gi gb r3) + k_) - 4) ≤ 9223372036854775807) <|
(some (((placeOf 9 gw gi gb r3) + k_) - 4)).bind fun r14 =>
some (r14, !decide (r3 = 0))

theorem bchained_walk {img : List Int} {l : List (Int × Int)} {gw : Int} {gi : Int} {gb : Int} {n_ : Int} {k_ : Int} {mb vb : Nat} {r : Int × Bool} (B : Nat) (w : World) (hmb : w.heap[mb]? = some (.cells [(.pointer (some ⟨vb, 0, none⟩)), (.int .i64 gw), (.int .i64 gi), (.int .i64 gb), (.int .i64 n_)].toArray 164 (0, 0))) (hv : ViewAt (ptr vb) img l w) (hm : bchained_M img l gw gi gb n_ k_ = some r) : Spec Tryz.prog 120 #[(.pointer (some ⟨mb, 0, none⟩)), (.int .i64 k_)] B w [] (fun v H' => v = (.tuple #[(.int .i64 r.1), (.bool r.2)]) ∧ H' = []) := by
 refine spec_Q Tryz.func120 rfl fun hs => ?_
 unfold bchained_M at hm
 refine W.sr fun K1 hK1 => ?_
 refine zE 2 (hK1 _ _ ?_)
 refine W.sr fun K2 hK2 => ?_
 refine zR 1 ?_
 obtain ⟨r3, h4, hm⟩ := bind_some hm
 refine zC00 hs (bchain_walk (img := img) (l := l) (gw := gw) (gi := gi) (gb := gb) (n_ := n_) (hmb := (hs.old hmb)) (hv := (viewAt_old hs hv)) (hm := h4) B _) fun w5 hs7 => ?_
 refine zE 1 (hK2 _ _ ?_)
 refine W.sr fun K8 hK8 => ?_
 refine zR 3 ?_
 refine ops_R (runs_loadAgg (ad := ⟨mb, 1, none⟩) (cs := [(.int .i64 gw), (.int .i64 gi), (.int .i64 gb)]) (by kernel_rfl) (cells_sub (hs7.old hmb) rfl)) ?_
 refine zR 1 ?_
 refine zC00 hs7 (blockat_spec (gw := gw) (gi := gi) (gb := gb) (n_ := r3) B _) fun w9 hs11 => ?_
 refine zR 1 ?_
 obtain ⟨h12, hm⟩ := need_some hm
 refine zI _ (wrap_i64 h12.1 h12.2) ?_
 obtain ⟨h13, hm⟩ := need_some hm
 refine zI _ (wrap_i64 h13.1 h13.2) ?_
 refine zR 3 ?_
 obtain ⟨r14, h15, hm⟩ := bind_some hm
 replace h15 := some_inj h15
 refine ops_set 4 (v := .int .i64 r14) (Eq.trans (by kernel_rfl) (congrArg (Value.int .i64) h15)) ?_
 refine zE 1 (hK8 _ _ ?_)
 refine W.ret ?_
 obtain rfl := some_inj hm
 refine ret_of (.tuple #[(.int .i64 r14), (.bool (!decide (r3 = 0)))]) (by kernel_rfl) ⟨_, ⟨rfl, rfl⟩, hs11⟩

end Go.Proofs.YtmmclabkkigiaaaGreatDoor

set_option linter.unusedVariables false
set_option maxRecDepth 20000
set_option maxHeartbeats 2000000
namespace Go.Proofs.YtmmclabkkigiaaaGreatDoor
open Go Go.RowKit
set_option linter.unusedSimpArgs false
set_option linter.unusedVariables false

def bword_M (img : List Int) (l : List (Int × Int)) (gw : Int) (gi : Int) (gb : Int) (n_ : Int) (k_ : Int) : Option (Int × Bool) :=
 if k_ ≥ 4 then ((bchained_M img l gw gi gb n_ k_).bind fun r7 =>
some (r7.1, r7.2)) else ((bdirect_M gw gi gb n_ k_).bind fun r13 =>
some (r13.1, r13.2))

theorem bword_walk {img : List Int} {l : List (Int × Int)} {gw : Int} {gi : Int} {gb : Int} {n_ : Int} {k_ : Int} {mb vb : Nat} {r : Int × Bool} (B : Nat) (w : World) (hmb : w.heap[mb]? = some (.cells [(.pointer (some ⟨vb, 0, none⟩)), (.int .i64 gw), (.int .i64 gi), (.int .i64 gb), (.int .i64 n_)].toArray 164 (0, 0))) (hv : ViewAt (ptr vb) img l w) (hm : bword_M img l gw gi gb n_ k_ = some r) : Spec Tryz.prog 88 #[(.pointer (some ⟨mb, 0, none⟩)), (.int .i64 k_)] B w [] (fun v H' => v = (.tuple #[(.int .i64 r.1), (.bool r.2)]) ∧ H' = []) := by
 refine spec_Q Tryz.func88 rfl fun hs => ?_
 unfold bword_M at hm
 refine W.sr fun K1 hK1 => ?_
 refine zE 2 (hK1 _ _ ?_)
 refine W.sr fun K2 hK2 => ?_
 refine zE 3 (hK2 _ _ ?_)
 refine W.seq fun K3 hK3 => ?_
 refine W.sr fun K4 hK4 => ?_
 refine zE 2 (hK4 _ _ ?_)
 refine W.cond (decide (k_ ≥ 4)) (by kernel_rfl) (fun h5 => ?_) (fun h5 => ?_)
 ·
  obtain ⟨h5p, hm⟩ := iY hm h5
  refine W.region ?_
  refine zE 3 (hK3 _ _ ?_)
  refine W.sr fun K6 hK6 => ?_
  refine zR 2 ?_
  obtain ⟨r7, h8, hm⟩ := bind_some hm
  refine zC00 hs (bchained_walk (k_ := k_) (img := img) (l := l) (gw := gw) (gi := gi) (gb := gb) (n_ := n_) (hmb := (hs.old hmb)) (hv := (viewAt_old hs hv)) (hm := h8) B _) fun w9 hs11 => ?_
  refine zE 4 (hK6 _ _ ?_)
  refine W.ret ?_
  obtain rfl := some_inj hm
  refine ret_of (.tuple #[(.int .i64 r7.1), (.bool r7.2)]) (by kernel_rfl) ⟨_, ⟨rfl, rfl⟩, hs11⟩
 ·
  obtain ⟨h5p, hm⟩ := iN hm h5
  refine W.skip ?_
  refine hK3 _ _ ?_
  refine W.sr fun K12 hK12 => ?_
  refine zR 2 ?_
  obtain ⟨r13, h14, hm⟩ := bind_some hm
  refine zC00 hs (bdirect_walk (k_ := k_) (img := img) (l := l) (gw := gw) (gi := gi) (gb := gb) (n_ := n_) (hmb := (hs.old hmb)) (hv := (viewAt_old hs hv)) (hm := h14) B _) fun w15 hs17 => ?_
  refine zE 4 (hK12 _ _ ?_)
  refine W.ret ?_
  obtain rfl := some_inj hm
  refine ret_of (.tuple #[(.int .i64 r13.1), (.bool r13.2)]) (by kernel_rfl) ⟨_, ⟨rfl, rfl⟩, hs17⟩

end Go.Proofs.YtmmclabkkigiaaaGreatDoor
