/- Texts, one behind the other: A3e, A5e, F5A, A5f, F3b, F5o, A5g, A3f, A3g. -/
import Derived.Test.YtmmclabkkigiaaaGreatDoorQET4
set_option linter.unusedVariables false
set_option linter.unusedSimpArgs false
set_option linter.unusedVariables false
set_option maxRecDepth 20000
set_option maxHeartbeats 2000000
namespace Go.Proofs.YtmmclabkkigiaaaGreatDoor
open Go Go.RowKit
set_option linter.unusedSimpArgs false
set_option linter.unusedVariables false

def bat_J2 (img : List Int) (l : List (Int × Int)) (gw : Int) (gi : Int) (gb : Int) (n_ : Int) (k_ : Int) (p5 : Int) : Option (Int × Int) :=
 if p5 = 0 then ((bword_M img l gw gi gb n_ k_).bind fun r11 =>
if r11.2 = true then (need (0 ≤ gb ∧ gb ≤ 18446744073709551615) <|
if (vget img l r11.1) ≥ gb then (some (0, 4)) else (need (-9223372036854775808 ≤ (vget img l r11.1) ∧ (vget img l r11.1) ≤ 9223372036854775807) <|
some ((vget img l r11.1), 0))) else (some (0, 0))) else (some (0, p5))

def bat_J1 (img : List Int) (l : List (Int × Int)) (gw : Int) (gi : Int) (gb : Int) (n_ : Int) (k_ : Int) : Option (Int × Int) :=
 (some (igetM img l gw gi gb n_)).bind fun r33 =>
bat_J2 img l gw gi gb n_ k_ r33.2

def bat_M (img : List Int) (l : List (Int × Int)) (gw : Int) (gi : Int) (gb : Int) (n_ : Int) (k_ : Int) : Option (Int × Int) :=
 if k_ < 0 then (if k_ < 0 then (some (0, 1)) else (bat_J1 img l gw gi gb n_ k_)) else (if k_ ≥ 12 then (some (0, 1)) else (bat_J1 img l gw gi gb n_ k_))

theorem bat_walk {img : List Int} {l : List (Int × Int)} {gw : Int} {gi : Int} {gb : Int} {n_ : Int} {k_ : Int} {mb vb : Nat} {r : Int × Int} (B : Nat) (w : World) (hmb : w.heap[mb]? = some (.cells [(.pointer (some ⟨vb, 0, none⟩)), (.int .i64 gw), (.int .i64 gi), (.int .i64 gb), (.int .i64 n_)].toArray 164 (0, 0))) (hv : ViewAt (ptr vb) img l w) (hm : bat_M img l gw gi gb n_ k_ = some r) : Spec Tryz.prog 57 #[(.pointer (some ⟨mb, 0, none⟩)), (.int .i64 k_)] B w [] (fun v H' => v = (.tuple #[(.int .i64 r.1), (.int .i64 r.2)]) ∧ H' = []) := by
 refine spec_Q Tryz.func57 rfl fun hs => ?_
 unfold bat_M at hm
 refine W.sr fun K1 hK1 => ?_
 refine zE 2 (hK1 _ _ ?_)
 refine W.seq_join (fun s_ w_ => (∃ us, s_ = slots 62 [(0, (.pointer (some ⟨mb, 0, none⟩))), (1, (.int .i64 k_))] us) ∧ St B w [] w_ [] ∧ bat_J1 img l gw gi gb n_ k_ = some r) ?_ ?_
 ·
  rintro _ w2 ⟨⟨us, rfl⟩, hs3, hm⟩
  unfold bat_J1 at hm
  refine W.seq fun K4 hK4 => ?_
  refine W.seq_join (fun s_ w_ => ∃ (p5 : Int), (∃ us, s_ = slots 62 [(0, (.pointer (some ⟨mb, 0, none⟩))), (1, (.int .i64 k_)), (7, (.int .i64 p5))] us) ∧ St B w [] w_ [] ∧ bat_J2 img l gw gi gb n_ k_ p5 = some r) ?_ ?_
  ·
   rintro _ w6 ⟨p5, ⟨us, rfl⟩, hs7, hm⟩
   unfold bat_J2 at hm
   refine W.sr fun K8 hK8 => ?_
   refine zE 2 (hK8 _ _ ?_)
   refine W.cond (!decide (p5 = 0)) (by kernel_rfl) (fun h9 => ?_) (fun h9 => ?_)
   rotate_left
   ·
    have h9p : p5 = 0 := of_decide_eq_true (bnot_false h9)
    replace hm := ite_yes hm h9p
    refine W.skip ?_
    refine hK4 _ _ ?_
    refine W.sr fun K10 hK10 => ?_
    refine zR 2 ?_
    obtain ⟨r11, h12, hm⟩ := bind_some hm
    refine zC00 hs7 (bword_walk (k_ := k_) (img := img) (l := l) (gw := gw) (gi := gi) (gb := gb) (n_ := n_) (hmb := (hs7.old hmb)) (hv := (viewAt_old hs7 hv)) (hm := h12) B _) fun w13 hs15 => ?_
    refine zE 5 (hK10 _ _ ?_)
    refine W.seq fun K16 hK16 => ?_
    refine W.sr fun K17 hK17 => ?_
    refine zE 2 (hK17 _ _ ?_)
    refine W.cond (!r11.2) (by kernel_rfl) (fun h18 => ?_) (fun h18 => ?_)
    rotate_left
    ·
     have h18p : r11.2 = true := (bnot_false h18)
     replace hm := ite_yes hm h18p
     refine W.skip ?_
     refine hK16 _ _ ?_
     refine W.sr fun K19 hK19 => ?_
     refine zR 3 ?_
     refine zL ⟨mb, 0, none⟩ (.pointer (some ⟨vb, 0, none⟩)) (cell_of_blk (hs15.old hmb) rfl) ?_
     refine zR 1 ?_
     refine zC00 hs15 (get_spec (at_ := r11.1) (hv := (viewAt_old hs15 hv)) B _) fun w20 hs22 => ?_
     refine zE 1 (hK19 _ _ ?_)
     refine W.seq fun K23 hK23 => ?_
     refine W.sr fun K24 hK24 => ?_
     refine zR 5 ?_
     refine zL ⟨mb, 3, none⟩ (.int .i64 gb) (cell_of_blk (hs22.old hmb) rfl) ?_
     obtain ⟨h25, hm⟩ := need_some hm
     refine zI _ (wrap_u64 h25.1 (Int.lt_of_le_of_lt h25.2 (by decide))) ?_
     refine zE 1 (hK24 _ _ ?_)
     refine W.cond (decide ((vget img l r11.1) ≥ gb)) (by kernel_rfl) (fun h26 => ?_) (fun h26 => ?_)
     ·
      obtain ⟨h26p, hm⟩ := iY hm h26
      refine W.sr fun K27 hK27 => ?_
      refine zE 2 (hK27 _ _ ?_)
      refine W.ret (ret_seq ?_)
      obtain rfl := some_inj hm
      refine ret_of (.tuple #[(.int .i64 0), (.int .i64 4)]) (by kernel_rfl) ⟨_, ⟨rfl, rfl⟩, hs22⟩
     ·
      obtain ⟨h26p, hm⟩ := iN hm h26
      refine W.skip ?_
      refine hK23 _ _ ?_
      refine W.sr fun K28 hK28 => ?_
      refine zR 1 ?_
      obtain ⟨h29, hm⟩ := need_some hm
      refine zI _ (wrap_i64 h29.1 h29.2) ?_
      refine zE 2 (hK28 _ _ ?_)
      refine W.ret ?_
      obtain rfl := some_inj hm
      refine ret_of (.tuple #[(.int .i64 (vget img l r11.1)), (.int .i64 0)]) (by kernel_rfl) ⟨_, ⟨rfl, rfl⟩, hs22⟩
    ·
     have h18p : ¬ (r11.2 = true) := ne_true_of_eq_false (bnot_true h18)
     replace hm := ite_no hm h18p
     refine W.sr fun K30 hK30 => ?_
     refine zE 2 (hK30 _ _ ?_)
     refine W.ret (ret_seq ?_)
     obtain rfl := some_inj hm
     refine ret_of (.tuple #[(.int .i64 0), (.int .i64 0)]) (by kernel_rfl) ⟨_, ⟨rfl, rfl⟩, hs15⟩
   ·
    have h9p : ¬ (p5 = 0) := of_decide_eq_false (bnot_true h9)
    replace hm := ite_no hm h9p
    refine W.sr fun K31 hK31 => ?_
    refine zE 3 (hK31 _ _ ?_)
    refine W.ret (ret_seq ?_)
    obtain rfl := some_inj hm
    refine ret_of (.tuple #[(.int .i64 0), (.int .i64 p5)]) (by kernel_rfl) ⟨_, ⟨rfl, rfl⟩, hs7⟩
  ·
   have hs32 := hs3.drew
   refine W.regionD [(0, 0), (1, 1), (2, 2), (4, 4), (0, 0), (16, 16), (32, 32), (64, 64), (0, 0), (256, 256), (512, 512), (1024, 1024), (2184, 2184), (4096, 4096), (8192, 8192), (8192, 8192), (0, 0), (98303, 81920), (262143, 32768)] (fun w_ => St B w [] w_ []) (by kernel_rfl) hs32 ?_
   refine any_val (v := (.pointer (some ⟨mb, 0, none⟩))) (v' := (.pointer (some ⟨mb, 0, none⟩))) 0 (by kernel_rfl) (fun _ => by kernel_rfl) rfl hs32 ?_
   refine any_val (v := (.pointer (some ⟨mb, 0, none⟩))) (v' := (.pointer (some ⟨mb, 0, none⟩))) 1 (by kernel_rfl) (fun _ => by kernel_rfl) rfl hs32 ?_
   refine any_val (v := (.pointer (some ⟨mb, 0, none⟩))) (v' := (.pointer (some ⟨mb, 0, none⟩))) 2 (by kernel_rfl) (fun _ => by kernel_rfl) rfl hs32 ?_
   refine any_R 3 (by kernel_rfl) (fun _ hS_ => runs_load (ad := ⟨mb, 0, none⟩) (v := (.pointer (some ⟨vb, 0, none⟩))) (by kernel_rfl) (cell_of_blk (hS_.old hmb) rfl)) hs32 ?_
   refine any_val (v := (.pointer (some ⟨mb, 0, none⟩))) (v' := (.pointer (some ⟨mb, 0, none⟩))) 4 (by kernel_rfl) (fun _ => by kernel_rfl) rfl hs32 ?_
   refine any_val (v := (.pointer (some ⟨mb, 0, none⟩))) (v' := (.pointer (some ⟨mb, 0, none⟩))) 5 (by kernel_rfl) (fun _ => by kernel_rfl) rfl hs32 ?_
   refine any_val (v := (.pointer (some ⟨mb, 1, none⟩))) (v' := (.pointer (some ⟨mb, 1, none⟩))) 6 (by kernel_rfl) (fun _ => by kernel_rfl) rfl hs32 ?_
   refine any_R 7 (by kernel_rfl) (fun _ hS_ => runs_loadAgg (ad := ⟨mb, 1, none⟩) (cs := [(.int .i64 gw), (.int .i64 gi), (.int .i64 gb)]) (by kernel_rfl) (cells_sub (hS_.old hmb) rfl)) hs32 ?_
   refine any_val (v := (.pointer (some ⟨mb, 0, none⟩))) (v' := (.pointer (some ⟨mb, 0, none⟩))) 8 (by kernel_rfl) (fun _ => by kernel_rfl) rfl hs32 ?_
   refine any_val (v := (.pointer (some ⟨mb, 0, none⟩))) (v' := (.pointer (some ⟨mb, 0, none⟩))) 9 (by kernel_rfl) (fun _ => by kernel_rfl) rfl hs32 ?_
   refine any_val (v := (.pointer (some ⟨mb, 4, none⟩))) (v' := (.pointer (some ⟨mb, 4, none⟩))) 10 (by kernel_rfl) (fun _ => by kernel_rfl) rfl hs32 ?_
   refine any_R 11 (by kernel_rfl) (fun _ hS_ => runs_load (ad := ⟨mb, 4, none⟩) (v := (.int .i64 n_)) (by kernel_rfl) (cell_of_blk (hS_.old hmb) rfl)) hs32 ?_
   refine any_step2 12 16 (by kernel_rfl) (by kernel_rfl) (by kernel_rfl) ?_ ?_
   ·
    obtain ⟨r33, h34, hm⟩ := bind_some hm
    replace h34 := some_inj h34
    refine ops_call0 hs32 (by kernel_rfl) (ig_spec (gw := gw) (gi := gi) (gb := gb) (n_ := n_) (hv := (viewAt_old hs32 hv)) B _) ?_
    rintro _ _ w35 ⟨hv37, hH38⟩ hs36
    rw [h34] at hv37
    try rw [h34] at hH38
    subst hv37 hH38
    have hs39 := St.ap0 hs36
    refine ops_done (by kernel_rfl) ⟨hs39, ?_⟩
    refine any_val (v := (.tuple #[(.agg #[(.int .u64 r33.1.k), (.int .u64 r33.1.l), (.int .u64 r33.1.o), (.int .u64 r33.1.s), (.int .u64 r33.1.a), (.int .u64 r33.1.b), (.int .u64 r33.1.c), (.int .u64 r33.1.d), (.int .u64 r33.1.e), (.int .u64 r33.1.m)]), (.int .i64 r33.2)])) (v' := (.tuple #[(.agg #[(.int .u64 r33.1.k), (.int .u64 r33.1.l), (.int .u64 r33.1.o), (.int .u64 r33.1.s), (.int .u64 r33.1.a), (.int .u64 r33.1.b), (.int .u64 r33.1.c), (.int .u64 r33.1.d), (.int .u64 r33.1.e), (.int .u64 r33.1.m)]), (.int .i64 r33.2)])) 13 (by kernel_rfl) (fun _ => by kernel_rfl) rfl hs39 ?_
    refine any_val (v := (.agg #[(.int .u64 r33.1.k), (.int .u64 r33.1.l), (.int .u64 r33.1.o), (.int .u64 r33.1.s), (.int .u64 r33.1.a), (.int .u64 r33.1.b), (.int .u64 r33.1.c), (.int .u64 r33.1.d), (.int .u64 r33.1.e), (.int .u64 r33.1.m)])) (v' := (.agg #[(.int .u64 r33.1.k), (.int .u64 r33.1.l), (.int .u64 r33.1.o), (.int .u64 r33.1.s), (.int .u64 r33.1.a), (.int .u64 r33.1.b), (.int .u64 r33.1.c), (.int .u64 r33.1.d), (.int .u64 r33.1.e), (.int .u64 r33.1.m)])) 14 (by kernel_rfl) (fun _ => by kernel_rfl) rfl hs39 ?_
    refine any_val (v := (.int .i64 r33.2)) (v' := (.int .i64 r33.2)) 15 (by kernel_rfl) (fun _ => by kernel_rfl) rfl hs39 ?_
    refine any_step 16 (by kernel_rfl) (by kernel_rfl) ?_
    refine zN [(.int .u64 0), (.int .u64 0), (.int .u64 0), (.int .u64 0), (.int .u64 0), (.int .u64 0), (.int .u64 0), (.int .u64 0), (.int .u64 0), (.int .u64 0)] 153 hs39 fun b42 w40 hs41 => ?_
    have hs43 := St.tk0 hs41
    refine ops_done (by kernel_rfl) ⟨hs43, ?_⟩
    refine any_step 17 (by kernel_rfl) (by kernel_rfl) ?_
    refine ops_store (off := 0) (cs := [(.int .u64 0), (.int .u64 0), (.int .u64 0), (.int .u64 0), (.int .u64 0), (.int .u64 0), (.int .u64 0), (.int .u64 0), (.int .u64 0), (.int .u64 0)]) (vs := [(.int .u64 r33.1.k), (.int .u64 r33.1.l), (.int .u64 r33.1.o), (.int .u64 r33.1.s), (.int .u64 r33.1.a), (.int .u64 r33.1.b), (.int .u64 r33.1.c), (.int .u64 r33.1.d), (.int .u64 r33.1.e), (.int .u64 r33.1.m)]) hs41 (by kernel_rfl) (by simp) rfl (fun w44 hs45 => ?_)
    have hs46 : St B w [] w44 [blk b42 (.cells [(.int .u64 r33.1.k), (.int .u64 r33.1.l), (.int .u64 r33.1.o), (.int .u64 r33.1.s), (.int .u64 r33.1.a), (.int .u64 r33.1.b), (.int .u64 r33.1.c), (.int .u64 r33.1.d), (.int .u64 r33.1.e), (.int .u64 r33.1.m)].toArray 153 (0, 0))] := hs45
    have hs47 := St.tk0 hs46
    refine ops_done (by kernel_rfl) ⟨hs47, ?_⟩
    refine any_val (v := (.int .i64 r33.2)) (v' := (.int .i64 r33.2)) 18 (by kernel_rfl) (fun _ => by kernel_rfl) rfl hs47 ?_
    refine any_done (by kernel_rfl) ?_
    have hs48 := St.tk0 hs46
    exact ⟨r33.2, slots_intro _ (by kernel_rfl), hs48, hm⟩
   ·
    refine zN [(.int .u64 0), (.int .u64 0), (.int .u64 0), (.int .u64 0), (.int .u64 0), (.int .u64 0), (.int .u64 0), (.int .u64 0), (.int .u64 0), (.int .u64 0)] 153 hs32 fun b51 w49 hs50 => ?_
    have hs52 := St.tk0 hs50
    refine ops_done (by kernel_rfl) ⟨hs52, ?_⟩
    refine any_step 12 (by kernel_rfl) (by kernel_rfl) ?_
    obtain ⟨r53, h54, hm⟩ := bind_some hm
    replace h54 := some_inj h54
    refine ops_call0 hs50 (by kernel_rfl) (ig_spec (gw := gw) (gi := gi) (gb := gb) (n_ := n_) (hv := (viewAt_old hs50 hv)) B _) ?_
    rintro _ _ w55 ⟨hv57, hH58⟩ hs56
    rw [h54] at hv57
    try rw [h54] at hH58
    subst hv57 hH58
    have hs59 := St.ap0 hs56
    have hs60 := St.tk0 hs59
    refine ops_done (by kernel_rfl) ⟨hs60, ?_⟩
    refine any_val (v := (.tuple #[(.agg #[(.int .u64 r53.1.k), (.int .u64 r53.1.l), (.int .u64 r53.1.o), (.int .u64 r53.1.s), (.int .u64 r53.1.a), (.int .u64 r53.1.b), (.int .u64 r53.1.c), (.int .u64 r53.1.d), (.int .u64 r53.1.e), (.int .u64 r53.1.m)]), (.int .i64 r53.2)])) (v' := (.tuple #[(.agg #[(.int .u64 r53.1.k), (.int .u64 r53.1.l), (.int .u64 r53.1.o), (.int .u64 r53.1.s), (.int .u64 r53.1.a), (.int .u64 r53.1.b), (.int .u64 r53.1.c), (.int .u64 r53.1.d), (.int .u64 r53.1.e), (.int .u64 r53.1.m)]), (.int .i64 r53.2)])) 13 (by kernel_rfl) (fun _ => by kernel_rfl) rfl hs60 ?_
    refine any_val (v := (.agg #[(.int .u64 r53.1.k), (.int .u64 r53.1.l), (.int .u64 r53.1.o), (.int .u64 r53.1.s), (.int .u64 r53.1.a), (.int .u64 r53.1.b), (.int .u64 r53.1.c), (.int .u64 r53.1.d), (.int .u64 r53.1.e), (.int .u64 r53.1.m)])) (v' := (.agg #[(.int .u64 r53.1.k), (.int .u64 r53.1.l), (.int .u64 r53.1.o), (.int .u64 r53.1.s), (.int .u64 r53.1.a), (.int .u64 r53.1.b), (.int .u64 r53.1.c), (.int .u64 r53.1.d), (.int .u64 r53.1.e), (.int .u64 r53.1.m)])) 14 (by kernel_rfl) (fun _ => by kernel_rfl) rfl hs60 ?_
    refine any_val (v := (.int .i64 r53.2)) (v' := (.int .i64 r53.2)) 15 (by kernel_rfl) (fun _ => by kernel_rfl) rfl hs60 ?_
    refine any_step 17 (by kernel_rfl) (by kernel_rfl) ?_
    refine ops_store (off := 0) (cs := [(.int .u64 0), (.int .u64 0), (.int .u64 0), (.int .u64 0), (.int .u64 0), (.int .u64 0), (.int .u64 0), (.int .u64 0), (.int .u64 0), (.int .u64 0)]) (vs := [(.int .u64 r53.1.k), (.int .u64 r53.1.l), (.int .u64 r53.1.o), (.int .u64 r53.1.s), (.int .u64 r53.1.a), (.int .u64 r53.1.b), (.int .u64 r53.1.c), (.int .u64 r53.1.d), (.int .u64 r53.1.e), (.int .u64 r53.1.m)]) hs59 (by kernel_rfl) (by simp) rfl (fun w61 hs62 => ?_)
    have hs63 : St B w [] w61 [blk b51 (.cells [(.int .u64 r53.1.k), (.int .u64 r53.1.l), (.int .u64 r53.1.o), (.int .u64 r53.1.s), (.int .u64 r53.1.a), (.int .u64 r53.1.b), (.int .u64 r53.1.c), (.int .u64 r53.1.d), (.int .u64 r53.1.e), (.int .u64 r53.1.m)].toArray 153 (0, 0))] := hs62
    have hs64 := St.tk0 hs63
    refine ops_done (by kernel_rfl) ⟨hs64, ?_⟩
    refine any_val (v := (.int .i64 r53.2)) (v' := (.int .i64 r53.2)) 18 (by kernel_rfl) (fun _ => by kernel_rfl) rfl hs64 ?_
    refine any_done (by kernel_rfl) ?_
    have hs65 := St.tk0 hs63
    exact ⟨r53.2, slots_intro _ (by kernel_rfl), hs65, hm⟩
 ·
  refine W.block ?_
  refine W.sr fun K66 hK66 => ?_
  refine zE 3 (hK66 _ _ ?_)
  refine W.cond_false false (by kernel_rfl) rfl ?_
  refine W.seq fun K67 hK67 => ?_
  refine W.sr fun K68 hK68 => ?_
  refine zE 3 (hK68 _ _ ?_)
  refine W.cond (decide (k_ < 0)) (by kernel_rfl) (fun h69 => ?_) (fun h69 => ?_)
  ·
   obtain ⟨h69p, hm⟩ := iY hm h69
   refine W.skip ?_
   refine hK67 _ _ ?_
   refine W.cond (decide (k_ < 0)) (by kernel_rfl) (fun h70 => ?_) (fun h70 => ?_)
   ·
    obtain ⟨h70p, hm⟩ := iY hm h70
    refine W.sr fun K71 hK71 => ?_
    refine zE 2 (hK71 _ _ ?_)
    refine W.ret (ret_block (ret_seq ?_))
    obtain rfl := some_inj hm
    refine ret_of (.tuple #[(.int .i64 0), (.int .i64 1)]) (by kernel_rfl) ⟨_, ⟨rfl, rfl⟩, hs⟩
   ·
    obtain ⟨h70p, hm⟩ := iN hm h70
    refine W.skip ?_
    refine normal_block ?_
    exact ⟨slots_intro _ (by kernel_rfl), hs, hm⟩
  ·
   obtain ⟨h69p, hm⟩ := iN hm h69
   refine W.region ?_
   refine zE 3 (hK67 _ _ ?_)
   refine W.cond (decide (k_ ≥ 12)) (by kernel_rfl) (fun h72 => ?_) (fun h72 => ?_)
   ·
    obtain ⟨h72p, hm⟩ := iY hm h72
    refine W.sr fun K73 hK73 => ?_
    refine zE 2 (hK73 _ _ ?_)
    refine W.ret (ret_block (ret_seq ?_))
    obtain rfl := some_inj hm
    refine ret_of (.tuple #[(.int .i64 0), (.int .i64 1)]) (by kernel_rfl) ⟨_, ⟨rfl, rfl⟩, hs⟩
   ·
    obtain ⟨h72p, hm⟩ := iN hm h72
    refine W.skip ?_
    refine normal_block ?_
    exact ⟨slots_intro _ (by kernel_rfl), hs, hm⟩

end Go.Proofs.YtmmclabkkigiaaaGreatDoor

set_option linter.unusedVariables false
set_option maxRecDepth 20000
set_option maxHeartbeats 8000000
namespace Go.Proofs.YtmmclabkkigiaaaGreatDoor
open Go Go.RowKit
set_option linter.unusedSimpArgs false
set_option linter.unusedVariables false

def tentry_J4 (img : List Int) (l : List (Int × Int)) (r31 : Int) (r63 : ByteArray × Int) (p69 : Bool) : Option (ByteArray × Int × Int) :=
 if p69 = true then (some (ByteArray.empty, 0, 4)) else (need (-9223372036854775808 ≤ (vget img l r31) ∧ (vget img l r31) ≤ 9223372036854775807) <|
some (r63.1, (vget img l r31), 0))

def tentry_J3 (img : List Int) (l : List (Int × Int)) (r31 : Int) (q58 : List Int) : Option (ByteArray × Int × Int) :=
 need (-9223372036854775808 ≤ (vget img l (r31 + 1)) ∧ (vget img l (r31 + 1)) ≤ 9223372036854775807) <|
(unpack_M q58 (vget img l (r31 + 1))).bind fun r63 =>
if r63.2 = 0 then ((emay_M r63.1).bind fun r89 =>
tentry_J4 img l r31 r63 (!r89)) else (tentry_J4 img l r31 r63 true)

def tentry_B0 (img : List Int) (l : List (Int × Int)) (r31 : Int) (k99 : ((List Int) × Int) → Option (ByteArray × Int × Int)) (q97 : List Int) (p98 : Int) : Option (ByteArray × Int × Int) :=
 if p98 < 8 then (need (-9223372036854775808 ≤ (r31 + p98) ∧ (r31 + p98) ≤ 9223372036854775807) <|
need (q97.length + 1 ≤ 1000000000) <|
need (-9223372036854775808 ≤ (p98 + 1) ∧ (p98 + 1) ≤ 9223372036854775807) <|
k99 ((q97 ++ [(vget img l (r31 + p98))]), (p98 + 1))) else (tentry_J3 img l r31 q97)

def tentry_J2 (img : List Int) (l : List (Int × Int)) (k_ : Int) (r31 : Int) (p43 : Bool) : Option (ByteArray × Int × Int) :=
 if p43 = true then (some (ByteArray.empty, 0, 4)) else (iter (fun k_ s_ => tentry_B0 img l r31 k_ s_.1 s_.2) FUEL ([], 2))

def tentry_J1 (img : List Int) (l : List (Int × Int)) (gw : Int) (gi : Int) (gb : Int) (k_ : Int) (r9 : Int × Int) (p15 : Bool) : Option (ByteArray × Int × Int) :=
 if p15 = true then (some (ByteArray.empty, 0, r9.2)) else ((some (placeOf 9 gw gi gb r9.1)).bind fun r31 =>
need (-9223372036854775808 ≤ (r31 + 1) ∧ (r31 + 1) ≤ 9223372036854775807) <|
if (vget img l r31) < 1 then (tentry_J2 img l k_ r31 true) else (need (0 ≤ gi ∧ gi ≤ 18446744073709551615) <|
if (vget img l r31) ≥ gi then (tentry_J2 img l k_ r31 true) else (tentry_J2 img l k_ r31 (decide ((vget img l (r31 + 1)) > 40)))))

def tentry_M (img : List Int) (l : List (Int × Int)) (gw : Int) (gi : Int) (gb : Int) (n_ : Int) (k_ : Int) : Option (ByteArray × Int × Int) :=
 (bat_M img l gw gi gb n_ k_).bind fun r9 =>
if r9.2 = 0 then (tentry_J1 img l gw gi gb k_ r9 (decide (r9.1 = 0))) else (tentry_J1 img l gw gi gb k_ r9 true)

theorem tentry_walk {img : List Int} {l : List (Int × Int)} {gw : Int} {gi : Int} {gb : Int} {n_ : Int} {k_ : Int} {mb vb : Nat} {r : ByteArray × Int × Int} (B : Nat) (w : World) (hm : tentry_M img l gw gi gb n_ k_ = some r) : Spec Tryz.prog 48 #[(.agg #[(.pointer (some ⟨vb, 0, none⟩)), (.int .i64 gw), (.int .i64 gi), (.int .i64 gb), (.pointer (some ⟨mb, 0, none⟩))]), (.int .i64 k_)] B w [blk mb (.cells [(.pointer (some ⟨vb, 0, none⟩)), (.int .i64 gw), (.int .i64 gi), (.int .i64 gb), (.int .i64 n_)].toArray 164 (0, 0)), viewA (ptr vb) img l] (fun v H' => v = (.tuple #[(.agg #[(.string r.1), (.int .i64 r.2.1)]), (.int .i64 r.2.2)]) ∧ H' = [blk mb (.cells [(.pointer (some ⟨vb, 0, none⟩)), (.int .i64 gw), (.int .i64 gi), (.int .i64 gb), (.int .i64 n_)].toArray 164 (0, 0)), viewA (ptr vb) img l]) := by
 refine spec_W Tryz.func48 rfl fun l0 hs => ?_
 unfold tentry_M at hm
 refine W.sr fun K1 hK1 => ?_
 refine zN [(.pointer (some ⟨vb, 0, none⟩)), (.int .i64 gw), (.int .i64 gi), (.int .i64 gb), (.pointer (some ⟨mb, 0, none⟩))] 97 hs fun b4 w2 hs3 => ?_
 refine zN [(.string ByteArray.empty), (.int .i64 0)] 33 hs3 fun b7 w5 hs6 => ?_
 refine zE 1 (hK1 _ _ ?_)
 refine W.sr fun K8 hK8 => ?_
 refine zR 1 ?_
 refine zL ⟨b4, 4, none⟩ (.pointer (some ⟨mb, 0, none⟩)) (hs6.cellAt 1 rfl rfl) ?_
 refine zR 1 ?_
 obtain ⟨r9, h10, hm⟩ := bind_some hm
 refine zC00 hs6 (bat_walk (k_ := k_) (img := img) (l := l) (gw := gw) (gi := gi) (gb := gb) (n_ := n_) (hmb := (hs6.heapAt 2 rfl)) (hv := (hs6.entAt 3 rfl viewA_at)) (hm := h10) B _) fun w11 hs13 => ?_
 refine zE 5 (hK8 _ _ ?_)
 refine W.seq fun K14 hK14 => ?_
 refine W.seq_join (fun s_ w_ => ∃ (p15 : Bool), (∃ us, s_ = slots 89 [(2, (.pointer (some ⟨b4, 0, none⟩))), (4, (.pointer (some ⟨b7, 0, none⟩))), (6, (.int .i64 r9.1)), (7, (.int .i64 r9.2)), (26, (.bool p15))] us) ∧ St B w l0 w_ [viewA (ptr vb) img l, blk mb (.cells [(.pointer (some ⟨vb, 0, none⟩)), (.int .i64 gw), (.int .i64 gi), (.int .i64 gb), (.int .i64 n_)].toArray 164 (0, 0)), blk b4 (.cells [(.pointer (some ⟨vb, 0, none⟩)), (.int .i64 gw), (.int .i64 gi), (.int .i64 gb), (.pointer (some ⟨mb, 0, none⟩))].toArray 97 (0, 0)), blk b7 (.cells [(.string ByteArray.empty), (.int .i64 0)].toArray 33 (0, 0))] ∧ tentry_J1 img l gw gi gb k_ r9 p15 = some r) ?_ ?_
 ·
  rintro _ w16 ⟨p15, ⟨us, rfl⟩, hs17, hm⟩
  unfold tentry_J1 at hm
  refine W.cond p15 (by kernel_rfl) (fun h18 => ?_) (fun h18 => ?_)
  ·
   have h18p : p15 = true := h18
   replace hm := ite_yes hm h18p
   refine W.sr fun K19 hK19 => ?_
   refine zR 2 ?_
   have hs22 := St.f3 hs17
   refine ops_store (off := 0) (cs := [(.string ByteArray.empty), (.int .i64 0)]) (vs := [(.string ByteArray.empty), (.int .i64 0)]) hs22 (by kernel_rfl) (by simp) rfl (fun w20 hs21 => ?_)
   have hs23 : St B w l0 w20 [blk b7 (.cells [(.string ByteArray.empty), (.int .i64 0)].toArray 33 (0, 0)), viewA (ptr vb) img l, blk mb (.cells [(.pointer (some ⟨vb, 0, none⟩)), (.int .i64 gw), (.int .i64 gi), (.int .i64 gb), (.int .i64 n_)].toArray 164 (0, 0)), blk b4 (.cells [(.pointer (some ⟨vb, 0, none⟩)), (.int .i64 gw), (.int .i64 gi), (.int .i64 gb), (.pointer (some ⟨mb, 0, none⟩))].toArray 97 (0, 0))] := hs21
   refine zE 1 (hK19 _ _ ?_)
   refine W.ret (ret_seq ?_)
   obtain rfl := some_inj hm
   have hs24 := St.f1 hs23
   have hs25 := St.f2 hs24
   have hs26 := St.tk2 hs25
   refine ret_of (.tuple #[(.agg #[(.string ByteArray.empty), (.int .i64 0)]), (.int .i64 r9.2)]) (resS_of (by kernel_rfl) (resD_two rfl (.agg (ad := ⟨b7, 0, none⟩) (cs := [(.string ByteArray.empty), (.int .i64 0)]) (by kernel_rfl) (by kernel_rfl) (cells_sub (hs23.heapAt 0 rfl) rfl)) (.tmp (by kernel_rfl)))) ⟨_, ⟨rfl, rfl⟩, hs26⟩
  ·
   have h18p : ¬ (p15 = true) := ne_true_of_eq_false h18
   replace hm := ite_no hm h18p
   refine W.skip ?_
   refine hK14 _ _ ?_
   refine W.sr fun K27 hK27 => ?_
   refine zR 1 ?_
   refine ops_R (runs_loadAgg (ad := ⟨b4, 1, none⟩) (cs := [(.int .i64 gw), (.int .i64 gi), (.int .i64 gb)]) (by kernel_rfl) (cells_sub (hs17.heapAt 2 rfl) rfl)) ?_
   refine zR 1 ?_
   refine zC00 hs17 (blockat_spec (gw := gw) (gi := gi) (gb := gb) (n_ := r9.1) B _) fun w28 hs30 => ?_
   refine zR 1 ?_
   obtain ⟨r31, h32, hm⟩ := bind_some hm
   replace h32 := some_inj h32
   refine ops_set 8 (v := .int .i64 r31) (Eq.trans (by kernel_rfl) (congrArg (Value.int .i64) h32)) ?_
   refine zD (hK27 _ _ ?_)
   refine W.seq fun K33 hK33 => ?_
   have hs34 := hs30.drew
   refine W.regionD [(0, 0), (1, 1), (0, 0), (6, 6), (0, 0), (16, 16), (0, 0), (64, 64), (168, 160), (271, 8), (1023, 256)] (fun w_ => St B w l0 w_ [viewA (ptr vb) img l, blk mb (.cells [(.pointer (some ⟨vb, 0, none⟩)), (.int .i64 gw), (.int .i64 gi), (.int .i64 gb), (.int .i64 n_)].toArray 164 (0, 0)), blk b4 (.cells [(.pointer (some ⟨vb, 0, none⟩)), (.int .i64 gw), (.int .i64 gi), (.int .i64 gb), (.pointer (some ⟨mb, 0, none⟩))].toArray 97 (0, 0)), blk b7 (.cells [(.string ByteArray.empty), (.int .i64 0)].toArray 33 (0, 0))]) (by kernel_rfl) hs34 ?_
   refine any_val (v := (.pointer (some ⟨b4, 0, none⟩))) (v' := (.pointer (some ⟨b4, 0, none⟩))) 0 (by kernel_rfl) (fun _ => by kernel_rfl) rfl hs34 ?_
   refine any_R 1 (by kernel_rfl) (fun _ hS_ => runs_load (ad := ⟨b4, 0, none⟩) (v := (.pointer (some ⟨vb, 0, none⟩))) (by kernel_rfl) (hS_.cellAt 2 rfl rfl)) hs34 ?_
   refine any_val (v := (.int .i64 r31)) (v' := (.int .i64 r31)) 2 (by kernel_rfl) (fun _ => by kernel_rfl) rfl hs34 ?_
   refine any_val (v := (.pointer (some ⟨b4, 0, none⟩))) (v' := (.pointer (some ⟨b4, 0, none⟩))) 4 (by kernel_rfl) (fun _ => by kernel_rfl) rfl hs34 ?_
   refine any_R 5 (by kernel_rfl) (fun _ hS_ => runs_load (ad := ⟨b4, 0, none⟩) (v := (.pointer (some ⟨vb, 0, none⟩))) (by kernel_rfl) (hS_.cellAt 2 rfl rfl)) hs34 ?_
   refine any_val (v := (.int .i64 r31)) (v' := (.int .i64 r31)) 6 (by kernel_rfl) (fun _ => by kernel_rfl) rfl hs34 ?_
   obtain ⟨h35, hm⟩ := need_some hm
   refine any_val (v := .int .i64 (IntKind.i64.wrap (r31 + 1))) (v' := .int .i64 (r31 + 1)) 7 (by kernel_rfl) (fun _ => by kernel_rfl) (congrArg (Value.int .i64) (wrap_i64 h35.1 h35.2)) hs34 ?_
   refine any_step 3 (by kernel_rfl) (by kernel_rfl) ?_
   refine zC00 hs34 (get_spec (at_ := r31) (hv := (hs34.entAt 0 rfl viewA_at)) B _) fun w36 hs38 => ?_
   refine ops_done (by kernel_rfl) ⟨hs38, ?_⟩
   refine any_step 8 (by kernel_rfl) (by kernel_rfl) ?_
   refine zC00 hs38 (get_spec (at_ := (r31 + 1)) (hv := (hs38.entAt 0 rfl viewA_at)) B _) fun w39 hs41 => ?_
   refine ops_done (by kernel_rfl) ⟨hs41, ?_⟩
   refine any_val (v := (.int .u64 (vget img l r31))) (v' := (.int .u64 (vget img l r31))) 9 (by kernel_rfl) (fun _ => by kernel_rfl) rfl hs41 ?_
   refine any_val (v := (.int .u64 (vget img l (r31 + 1)))) (v' := (.int .u64 (vget img l (r31 + 1)))) 10 (by kernel_rfl) (fun _ => by kernel_rfl) rfl hs41 ?_
   refine any_done (by kernel_rfl) ?_
   refine hK33 _ _ ?_
   refine W.seq fun K42 hK42 => ?_
   refine W.seq_join (fun s_ w_ => ∃ (p43 : Bool), (∃ us, s_ = slots 89 [(2, (.pointer (some ⟨b4, 0, none⟩))), (4, (.pointer (some ⟨b7, 0, none⟩))), (8, (.int .i64 r31)), (9, (.int .u64 (vget img l r31))), (10, (.int .u64 (vget img l (r31 + 1)))), (55, (.bool p43))] us) ∧ St B w l0 w_ [viewA (ptr vb) img l, blk mb (.cells [(.pointer (some ⟨vb, 0, none⟩)), (.int .i64 gw), (.int .i64 gi), (.int .i64 gb), (.int .i64 n_)].toArray 164 (0, 0)), blk b4 (.cells [(.pointer (some ⟨vb, 0, none⟩)), (.int .i64 gw), (.int .i64 gi), (.int .i64 gb), (.pointer (some ⟨mb, 0, none⟩))].toArray 97 (0, 0)), blk b7 (.cells [(.string ByteArray.empty), (.int .i64 0)].toArray 33 (0, 0))] ∧ tentry_J2 img l k_ r31 p43 = some r) ?_ ?_
   ·
    rintro _ w44 ⟨p43, ⟨us, rfl⟩, hs45, hm⟩
    unfold tentry_J2 at hm
    refine W.cond p43 (by kernel_rfl) (fun h46 => ?_) (fun h46 => ?_)
    ·
     have h46p : p43 = true := h46
     replace hm := ite_yes hm h46p
     refine W.sr fun K47 hK47 => ?_
     refine zR 1 ?_
     have hs50 := St.f3 hs45
     refine ops_store (off := 0) (cs := [(.string ByteArray.empty), (.int .i64 0)]) (vs := [(.string ByteArray.empty), (.int .i64 0)]) hs50 (by kernel_rfl) (by simp) rfl (fun w48 hs49 => ?_)
     have hs51 : St B w l0 w48 [blk b7 (.cells [(.string ByteArray.empty), (.int .i64 0)].toArray 33 (0, 0)), viewA (ptr vb) img l, blk mb (.cells [(.pointer (some ⟨vb, 0, none⟩)), (.int .i64 gw), (.int .i64 gi), (.int .i64 gb), (.int .i64 n_)].toArray 164 (0, 0)), blk b4 (.cells [(.pointer (some ⟨vb, 0, none⟩)), (.int .i64 gw), (.int .i64 gi), (.int .i64 gb), (.pointer (some ⟨mb, 0, none⟩))].toArray 97 (0, 0))] := hs49
     refine zE 1 (hK47 _ _ ?_)
     refine W.ret (ret_seq ?_)
     obtain rfl := some_inj hm
     have hs52 := St.f1 hs51
     have hs53 := St.f2 hs52
     have hs54 := St.tk2 hs53
     refine ret_of (.tuple #[(.agg #[(.string ByteArray.empty), (.int .i64 0)]), (.int .i64 4)]) (resS_of (by kernel_rfl) (resD_two rfl (.agg (ad := ⟨b7, 0, none⟩) (cs := [(.string ByteArray.empty), (.int .i64 0)]) (by kernel_rfl) (by kernel_rfl) (cells_sub (hs51.heapAt 0 rfl) rfl)) (.tmp (by kernel_rfl)))) ⟨_, ⟨rfl, rfl⟩, hs54⟩
    ·
     have h46p : ¬ (p43 = true) := ne_true_of_eq_false h46
     replace hm := ite_no hm h46p
     refine W.skip ?_
     refine hK42 _ _ ?_
     refine W.sr fun K55 hK55 => ?_
     refine zE 1 (hK55 _ _ ?_)
     refine W.seq_join (fun s_ w_ => ∃ (q58 : List Int) (m56 : Option Addr) (m57 : Nat), (∃ us, s_ = slots 89 [(4, (.pointer (some ⟨b7, 0, none⟩))), (9, (.int .u64 (vget img l r31))), (10, (.int .u64 (vget img l (r31 + 1)))), (11, (.slice m56 q58.length m57))] us) ∧ St B w l0 w_ [blk b7 (.cells [(.string ByteArray.empty), (.int .i64 0)].toArray 33 (0, 0)), kU64.row m56 m57 q58, viewA (ptr vb) img l, blk mb (.cells [(.pointer (some ⟨vb, 0, none⟩)), (.int .i64 gw), (.int .i64 gi), (.int .i64 gb), (.int .i64 n_)].toArray 164 (0, 0)), blk b4 (.cells [(.pointer (some ⟨vb, 0, none⟩)), (.int .i64 gw), (.int .i64 gi), (.int .i64 gb), (.pointer (some ⟨mb, 0, none⟩))].toArray 97 (0, 0))] ∧ tentry_J3 img l r31 q58 = some r) ?_ ?_
     ·
      rintro _ w59 ⟨q58, m56, m57, ⟨us, rfl⟩, hs60, hm⟩
      unfold tentry_J3 at hm
      refine W.sr fun K61 hK61 => ?_
      refine zR 2 ?_
      obtain ⟨h62, hm⟩ := need_some hm
      refine zI _ (wrap_i64 h62.1 h62.2) ?_
      obtain ⟨r63, h64, hm⟩ := bind_some hm
      refine zC00 hs60 (unpack_walk (ws := q58) (n_ := (vget img l (r31 + 1))) (wa := m56) (wc := m57) (hw := (St.kcells kU64 hs60 1 rfl)) (hm := h64) B _) fun w65 hs67 => ?_
      refine zE 5 (hK61 _ _ ?_)
      refine W.seq fun K68 hK68 => ?_
      refine W.seq_join (fun s_ w_ => ∃ (p69 : Bool), (∃ us, s_ = slots 89 [(4, (.pointer (some ⟨b7, 0, none⟩))), (9, (.int .u64 (vget img l r31))), (13, (.string r63.1)), (83, (.bool p69))] us) ∧ St B w l0 w_ [blk b7 (.cells [(.string ByteArray.empty), (.int .i64 0)].toArray 33 (0, 0)), kU64.row m56 m57 q58, viewA (ptr vb) img l, blk mb (.cells [(.pointer (some ⟨vb, 0, none⟩)), (.int .i64 gw), (.int .i64 gi), (.int .i64 gb), (.int .i64 n_)].toArray 164 (0, 0)), blk b4 (.cells [(.pointer (some ⟨vb, 0, none⟩)), (.int .i64 gw), (.int .i64 gi), (.int .i64 gb), (.pointer (some ⟨mb, 0, none⟩))].toArray 97 (0, 0))] ∧ tentry_J4 img l r31 r63 p69 = some r) ?_ ?_
      ·
       rintro _ w70 ⟨p69, ⟨us, rfl⟩, hs71, hm⟩
       unfold tentry_J4 at hm
       refine W.cond p69 (by kernel_rfl) (fun h72 => ?_) (fun h72 => ?_)
       ·
        have h72p : p69 = true := h72
        replace hm := ite_yes hm h72p
        refine W.sr fun K73 hK73 => ?_
        refine zR 1 ?_
        refine ops_store (off := 0) (cs := [(.string ByteArray.empty), (.int .i64 0)]) (vs := [(.string ByteArray.empty), (.int .i64 0)]) hs71 (by kernel_rfl) (by simp) rfl (fun w74 hs75 => ?_)
        have hs76 : St B w l0 w74 [blk b7 (.cells [(.string ByteArray.empty), (.int .i64 0)].toArray 33 (0, 0)), kU64.row m56 m57 q58, viewA (ptr vb) img l, blk mb (.cells [(.pointer (some ⟨vb, 0, none⟩)), (.int .i64 gw), (.int .i64 gi), (.int .i64 gb), (.int .i64 n_)].toArray 164 (0, 0)), blk b4 (.cells [(.pointer (some ⟨vb, 0, none⟩)), (.int .i64 gw), (.int .i64 gi), (.int .i64 gb), (.pointer (some ⟨mb, 0, none⟩))].toArray 97 (0, 0))] := hs75
        refine zE 1 (hK73 _ _ ?_)
        refine W.ret (ret_seq ?_)
        obtain rfl := some_inj hm
        have hs77 := St.f2 hs76
        have hs78 := St.f3 hs77
        have hs79 := St.tk2 hs78
        refine ret_of (.tuple #[(.agg #[(.string ByteArray.empty), (.int .i64 0)]), (.int .i64 4)]) (resS_of (by kernel_rfl) (resD_two rfl (.agg (ad := ⟨b7, 0, none⟩) (cs := [(.string ByteArray.empty), (.int .i64 0)]) (by kernel_rfl) (by kernel_rfl) (cells_sub (hs76.heapAt 0 rfl) rfl)) (.tmp (by kernel_rfl)))) ⟨_, ⟨rfl, rfl⟩, hs79⟩
       ·
        have h72p : ¬ (p69 = true) := ne_true_of_eq_false h72
        replace hm := ite_no hm h72p
        refine W.skip ?_
        refine hK68 _ _ ?_
        refine W.sr fun K80 hK80 => ?_
        refine zR 2 ?_
        obtain ⟨h81, hm⟩ := need_some hm
        refine zI _ (wrap_i64 h81.1 h81.2) ?_
        refine zR 1 ?_
        refine ops_store (off := 0) (cs := [(.string ByteArray.empty), (.int .i64 0)]) (vs := [(.string r63.1), (.int .i64 (vget img l r31))]) hs71 (by kernel_rfl) (by simp) rfl (fun w82 hs83 => ?_)
        have hs84 : St B w l0 w82 [blk b7 (.cells [(.string r63.1), (.int .i64 (vget img l r31))].toArray 33 (0, 0)), kU64.row m56 m57 q58, viewA (ptr vb) img l, blk mb (.cells [(.pointer (some ⟨vb, 0, none⟩)), (.int .i64 gw), (.int .i64 gi), (.int .i64 gb), (.int .i64 n_)].toArray 164 (0, 0)), blk b4 (.cells [(.pointer (some ⟨vb, 0, none⟩)), (.int .i64 gw), (.int .i64 gi), (.int .i64 gb), (.pointer (some ⟨mb, 0, none⟩))].toArray 97 (0, 0))] := hs83
        refine zE 1 (hK80 _ _ ?_)
        refine W.ret ?_
        obtain rfl := some_inj hm
        have hs85 := St.f2 hs84
        have hs86 := St.f3 hs85
        have hs87 := St.tk2 hs86
        refine ret_of (.tuple #[(.agg #[(.string r63.1), (.int .i64 (vget img l r31))]), (.int .i64 0)]) (resS_of (by kernel_rfl) (resD_two rfl (.agg (ad := ⟨b7, 0, none⟩) (cs := [(.string r63.1), (.int .i64 (vget img l r31))]) (by kernel_rfl) (by kernel_rfl) (cells_sub (hs84.heapAt 0 rfl) rfl)) (.tmp (by kernel_rfl)))) ⟨_, ⟨rfl, rfl⟩, hs87⟩
      ·
       refine W.region ?_
       refine zR 3 ?_
       rcases Bool.eq_false_or_eq_true (!decide (r63.2 = 0)) with h88 | h88
       rotate_left
       ·
        have h88p : r63.2 = 0 := of_decide_eq_true (bnot_false h88)
        replace hm := ite_yes hm h88p
        refine zS 79 h88 ?_
        refine zS 78 h88 ?_
        refine zR 1 ?_
        obtain ⟨r89, h90, hm⟩ := bind_some hm
        refine zC00 hs67 (emay_walk (tx_ := r63.1) (hm := h90) B _) fun w91 hs93 => ?_
        refine zE 2 ?_
        exact ⟨(!r89), slots_intro _ (by kernel_rfl), hs93, hm⟩
       ·
        have h88p : ¬ (r63.2 = 0) := of_decide_eq_false (bnot_true h88)
        replace hm := ite_no hm h88p
        refine zS 79 h88 ?_
        refine zS 78 h88 ?_
        refine zE 4 ?_
        exact ⟨true, slots_intro _ (by kernel_rfl), hs67, hm⟩
     ·
      refine W.sr fun K94 hK94 => ?_
      refine zE 1 (hK94 _ _ ?_)
      refine W.block ?_
      have hs103 := St.knil kU64 hs45
      have hs104 := St.f4 hs103
      have hs105 := St.f4 hs104
      have hs106 := St.f4 hs105
      have hs107 := St.f4 hs106
      refine W.loop_iter (G := (List Int) × Int × (Option Addr) × Nat) (σ := (List Int) × Int) (fun | (q97, p98, m95, m96) => (q97, p98)) (fun | (q97, p98, m95, m96), s_, w_ => (∃ us, s_ = slots 89 [(2, (.pointer (some ⟨b4, 0, none⟩))), (4, (.pointer (some ⟨b7, 0, none⟩))), (8, (.int .i64 r31)), (9, (.int .u64 (vget img l r31))), (10, (.int .u64 (vget img l (r31 + 1)))), (11, (.slice m95 q97.length m96)), (12, (.int .i64 p98))] us) ∧ St B w l0 w_ [viewA (ptr vb) img l, blk mb (.cells [(.pointer (some ⟨vb, 0, none⟩)), (.int .i64 gw), (.int .i64 gi), (.int .i64 gb), (.int .i64 n_)].toArray 164 (0, 0)), blk b4 (.cells [(.pointer (some ⟨vb, 0, none⟩)), (.int .i64 gw), (.int .i64 gi), (.int .i64 gb), (.pointer (some ⟨mb, 0, none⟩))].toArray 97 (0, 0)), blk b7 (.cells [(.string ByteArray.empty), (.int .i64 0)].toArray 33 (0, 0)), kU64.row m95 m96 q97]) ([], 2, none, 0) ⟨slots_intro _ (by kernel_rfl), hs107⟩ hm ?_
      rintro k99 ih100 ⟨q97, p98, m95, m96⟩ _ w101 ⟨⟨us, rfl⟩, hs102⟩ hm
      replace hm : tentry_B0 img l r31 k99 q97 p98 = some r := hm
      unfold tentry_B0 at hm
      refine W.seq fun K108 hK108 => ?_
      refine W.sr fun K109 hK109 => ?_
      refine zE 2 (hK109 _ _ ?_)
      refine W.cond (decide (p98 < 8)) (by kernel_rfl) (fun h110 => ?_) (fun h110 => ?_)
      ·
       obtain ⟨h110p, hm⟩ := iY hm h110
       refine W.skip ?_
       refine hK108 _ _ ?_
       refine W.seq fun K111 hK111 => ?_
       refine W.block ?_
       refine W.region ?_
       refine zR 2 ?_
       refine zL ⟨b4, 0, none⟩ (.pointer (some ⟨vb, 0, none⟩)) (hs102.cellAt 2 rfl rfl) ?_
       refine zR 2 ?_
       obtain ⟨h112, hm⟩ := need_some hm
       refine zI _ (wrap_i64 h112.1 h112.2) ?_
       refine zC00 hs102 (get_spec (at_ := (r31 + p98)) (hv := (hs102.entAt 0 rfl viewA_at)) B _) fun w113 hs115 => ?_
       refine ops_new (fun b => .slice (some ⟨b, 0, none⟩) 1 1) (.cells [(.int .u64 (vget img l (r31 + p98)))].toArray 25 (0, 0)) hs115 (by kernel_rfl) (fun b118 w116 hs117 => ?_)
       have hs119 := St.f5 hs117
       obtain ⟨h124, hm⟩ := need_some hm
       refine ops_appendK kU64 (bytes := 8) (a' := (some ⟨b118, 0, none⟩)) (c' := 1) (l := q97) (m := [(vget img l (r31 + p98))]) hs119 (by kernel_rfl) (by simp) (cells_blk (hs119.heapAt 1 rfl)) (by unfold maxLen; (try simp only [List.length_cons, List.length_nil]); omega) (by (try simp only [List.length_cons, List.length_nil]); omega) (fun a120 c121 w122 hs123 => ?_)
       refine zE 1 ?_
       refine normal_block ?_
       refine hK111 _ _ ?_
       refine W.region ?_
       refine zR 1 ?_
       obtain ⟨h125, hm⟩ := need_some hm
       refine zI _ (wrap_i64 h125.1 h125.2) ?_
       refine zE 1 ?_
       have hs126 := St.f5 hs123
       have hs127 := St.f5 hs126
       have hs128 := St.f5 hs127
       have hs129 := St.f5 hs128
       have hs130 := St.tk5 hs129
       refine loopAt_next ?_
       exact ih100 ((q97 ++ [(vget img l (r31 + p98))]), (p98 + 1), a120, c121) _ _ ⟨slots_intro _ (by kernel_rfl), hs130⟩ hm
      ·
       obtain ⟨h110p, hm⟩ := iN hm h110
       refine W.exit (exit_seq (exit_seq (exit_here ?_)))
       have hs131 := St.f2 hs102
       have hs132 := St.f2 hs131
       have hs133 := St.f2 hs132
       have hs134 := St.f4 hs133
       have hs135 := St.f4 hs134
       exact ⟨q97, m95, m96, slots_intro _ (by kernel_rfl), hs135, hm⟩
   ·
    refine W.region ?_
    refine zR 3 ?_
    rcases Bool.eq_false_or_eq_true (decide ((vget img l r31) < 1)) with h136 | h136
    ·
     obtain ⟨h136p, hm⟩ := iY hm h136
     refine zS 44 h136 ?_
     refine zS 43 h136 ?_
     refine zE 11 ?_
     exact ⟨true, slots_intro _ (by kernel_rfl), hs41, hm⟩
    ·
     obtain ⟨h136p, hm⟩ := iN hm h136
     refine zS 44 h136 ?_
     refine zS 43 h136 ?_
     refine zR 3 ?_
     refine zL ⟨b4, 2, none⟩ (.int .i64 gi) (hs41.cellAt 2 rfl rfl) ?_
     obtain ⟨h137, hm⟩ := need_some hm
     refine zI _ (wrap_u64 h137.1 (Int.lt_of_le_of_lt h137.2 (by decide))) ?_
     refine zR 3 ?_
     rcases Bool.eq_false_or_eq_true (decide ((vget img l r31) ≥ gi)) with h138 | h138
     ·
      obtain ⟨h138p, hm⟩ := iY hm h138
      refine zS 52 h138 ?_
      refine zS 50 h138 ?_
      refine zS 51 h138 ?_
      refine zE 3 ?_
      exact ⟨true, slots_intro _ (by kernel_rfl), hs41, hm⟩
     ·
      obtain ⟨h138p, hm⟩ := iN hm h138
      refine zS 52 h138 ?_
      refine zS 50 h138 ?_
      refine zS 51 h138 ?_
      refine zE 3 ?_
      exact ⟨(decide ((vget img l (r31 + 1)) > 40)), slots_intro _ (by kernel_rfl), hs41, hm⟩
 ·
  refine W.region ?_
  refine zR 3 ?_
  rcases Bool.eq_false_or_eq_true (!decide (r9.2 = 0)) with h139 | h139
  rotate_left
  ·
   have h139p : r9.2 = 0 := of_decide_eq_true (bnot_false h139)
   replace hm := ite_yes hm h139p
   refine zS 23 h139 ?_
   refine zS 22 h139 ?_
   refine zE 3 ?_
   have hs140 := St.f1 hs13
   have hs141 := St.f2 hs140
   have hs142 := St.f3 hs141
   exact ⟨(decide (r9.1 = 0)), slots_intro _ (by kernel_rfl), hs142, hm⟩
  ·
   have h139p : ¬ (r9.2 = 0) := of_decide_eq_false (bnot_true h139)
   replace hm := ite_no hm h139p
   refine zS 23 h139 ?_
   refine zS 22 h139 ?_
   refine zE 3 ?_
   have hs143 := St.f1 hs13
   have hs144 := St.f2 hs143
   have hs145 := St.f3 hs144
   exact ⟨true, slots_intro _ (by kernel_rfl), hs145, hm⟩

end Go.Proofs.YtmmclabkkigiaaaGreatDoor

set_option maxRecDepth 20000
set_option maxHeartbeats 2000000
namespace Go.Proofs.YtmmclabkkigiaaaGreatDoor
open Go Go.RowKit
set_option linter.unusedSimpArgs false
set_option linter.unusedVariables false

theorem around_spec {f_ : Int} (B : Nat) (w : World) : Spec Tryz.prog 47 #[(.int .i64 f_)] B w [] (fun v H' => ∃ b1, v = .func (.func 83) #[] #[ptr b1] ∧ H' = [blk b1 (.cells [(.int .i64 f_)].toArray 3 (0, 0))]) := by
 refine spec_Q Tryz.func47 rfl fun hs => ?_
 refine W.sr fun K1 hK1 => ?_
 refine zN [(.int .i64 f_)] 3 hs fun b4 w2 hs3 => ?_
 refine zE 1 (hK1 _ _ ?_)
 refine W.sr fun K5 hK5 => ?_
 refine zE 2 (hK5 _ _ ?_)
 refine W.ret ?_
 refine ret_of (.func (.func 83) #[] #[(.pointer (some ⟨b4, 0, none⟩))]) (by kernel_rfl) ⟨_, ⟨b4, rfl, rfl⟩, hs3⟩

theorem around1_spec {c1 yl : Nat} {f_ : Int} {Y : Nat → Asn} {Z : Asn} (B : Nat) (w : World) (hf : 0 ≤ f_ ∧ f_ ≤ 12) (hy : ∀ k : Nat, k < 12 → ∀ w', YSpec Tryz.prog yl #[(.int .i64 ((f_ + (k : Int)) % 12))] B w' [Y k] (fun v H' => (v = .bool true ∧ H' = [Y (k + 1)]) ∨ (v = .bool false ∧ H' = [Z]))) : Spec Tryz.prog 83 #[(.func (.yield yl) #[] #[]), (.pointer (some ⟨c1, 0, none⟩))] B w [blk c1 (.cells [(.int .i64 f_)].toArray 3 (0, 0)), Y 0] (fun v H' => v = .tuple #[] ∧ (H' = [blk c1 (.cells [(.int .i64 f_)].toArray 3 (0, 0)), Y 12] ∨ H' = [blk c1 (.cells [(.int .i64 f_)].toArray 3 (0, 0)), Z])) := by
 refine spec_W Tryz.func83 rfl fun l0 hs => ?_
 refine W.sr fun K1 hK1 => ?_
 refine zE 1 (hK1 _ _ ?_)
 refine W.block ?_
 refine W.loop (G := Nat) (fun | k, s_, w_ => (∃ us, s_ = slots 15 [(0, (.func (.yield yl) #[] #[])), (1, (.pointer (some ⟨c1, 0, none⟩))), (4, (.int .i64 ((k : Nat) : Int)))] us) ∧ St B w l0 w_ [blk c1 (.cells [(.int .i64 f_)].toArray 3 (0, 0)), Y k] ∧ (k ≤ 12)) (fun k => 12 - k) 0 ⟨slots_intro _ (by kernel_rfl), hs, by omega⟩ ?_
 rintro k _ w2 ⟨⟨us, rfl⟩, hs3, hk0⟩
 refine W.sr fun K4 hK4 => ?_
 refine zE 1 (hK4 _ _ ?_)
 refine W.seq fun K5 hK5 => ?_
 refine W.cond (decide (((k : Nat) : Int) < 12)) (by kernel_rfl) (fun h6 => ?_) (fun h6 => ?_)
 ·
  have h6p := of_decide_eq_true h6
  refine W.skip ?_
  refine hK5 _ _ ?_
  refine W.seq fun K7 hK7 => ?_
  refine W.block ?_
  refine W.sr fun K8 hK8 => ?_
  refine zE 2 (hK8 _ _ ?_)
  refine W.sr fun K9 hK9 => ?_
  refine zR 1 ?_
  refine zL ⟨c1, 0, none⟩ (.int .i64 f_) (hs3.cellAt 0 rfl rfl) ?_
  refine zR 1 ?_
  have h10 : -9223372036854775808 ≤ (f_ + ((k : Nat) : Int)) ∧ (f_ + ((k : Nat) : Int)) ≤ 9223372036854775807 := by omega
  refine zI _ (wrap_i64 h10.1 h10.2) ?_
  have h11 : 0 ≤ (f_ + ((k : Nat) : Int)) := by omega
  refine ops_R (v := .int .i64 ((f_ + ((k : Nat) : Int)) % 12)) (runs_rem (k := .i64) (a := (f_ + ((k : Nat) : Int))) (b := 12) (by kernel_rfl) (by decide) (Int.tmod_eq_emod_of_nonneg h11)) ?_
  have hs12 := St.f1 hs3
  refine ops_yield (pre := [Y k]) (l := yl) hs12 (by kernel_rfl) (by kernel_rfl) (hy k (by omega) _) ?_
  rintro _ _ w13 (⟨rfl, rfl⟩ | ⟨rfl, rfl⟩) hs14
  ·
   have hs15 : St B w l0 w13 [Y (k + 1), blk c1 (.cells [(.int .i64 f_)].toArray 3 (0, 0))] := hs14
   refine zE 1 (hK9 _ _ ?_)
   refine W.cond_false false (by kernel_rfl) rfl ?_
   refine W.skip ?_
   refine normal_block ?_
   refine hK7 _ _ ?_
   refine W.region ?_
   have h16 : -9223372036854775808 ≤ (((k : Nat) : Int) + 1) ∧ (((k : Nat) : Int) + 1) ≤ 9223372036854775807 := by omega
   refine zI _ (wrap_i64 h16.1 h16.2) ?_
   refine zE 1 ?_
   have hs17 := St.f1 hs15
   exact ⟨k + 1, ⟨slots_intro _ (by kernel_rfl), hs17, by omega⟩, by omega⟩
  ·
   have hs18 : St B w l0 w13 [Z, blk c1 (.cells [(.int .i64 f_)].toArray 3 (0, 0))] := hs14
   refine zE 1 (hK9 _ _ ?_)
   refine W.cond_true true (by kernel_rfl) rfl ?_
   refine W.ret (ret_block (ret_seq (ret_seq (ret_block ?_))))
   have hs19 := St.f1 hs18
   refine ret_of (.tuple #[]) (by kernel_rfl) ⟨_, ⟨rfl, .inr rfl⟩, hs19⟩
 ·
  have h6p := of_decide_eq_false h6
  refine W.exit (exit_seq (exit_seq (exit_here ?_)))
  have hn_ : k = 12 := by omega
  subst hn_
  refine ret_ofN (.tuple #[]) (by kernel_rfl) ⟨_, ⟨rfl, .inl rfl⟩, hs3⟩

end Go.Proofs.YtmmclabkkigiaaaGreatDoor

set_option linter.unusedVariables false
set_option maxRecDepth 20000
set_option maxHeartbeats 8000000
namespace Go.Proofs.YtmmclabkkigiaaaGreatDoor
open Go Go.RowKit
set_option linter.unusedSimpArgs false
set_option linter.unusedVariables false

def tfind_D40  : Option (ByteArray × Int × Int × Int) :=
 some (ByteArray.empty, 0, 0, 6)

def tfind_X40 (p41 : Int) (p42 : Int) (p43 : ByteArray) (p44 : Int) : Option (ByteArray × Int × Int × Int) :=
 some (p43, p44, p42, p41)

def tfind_R40 (img : List Int) (l : List (Int × Int)) (gw : Int) (gi : Int) (gb : Int) (n_ : Int) (tx_ : ByteArray) (r27 : Int) (k38 : Nat) (c39 : Unit → Option (ByteArray × Int × Int × Int)) : Option (ByteArray × Int × Int × Int) :=
 (some (((r27 : Int) + (k38 : Int)) % 12)).bind fun r104 =>
(tentry_M img l gw gi gb n_ r104).bind fun r109 =>
if r109.2.2 = 0 then (if r109.1 = tx_ ∧ r109.2.1 = r109.2.1 then (tfind_X40 0 r104 r109.1 r109.2.1) else (c39 ())) else (tfind_X40 r109.2.2 0 ByteArray.empty 0)

def tfind_M (img : List Int) (l : List (Int × Int)) (gw : Int) (gi : Int) (gb : Int) (n_ : Int) (tx_ : ByteArray) : Option (ByteArray × Int × Int × Int) :=
 (emay_M tx_).bind fun r19 =>
if r19 = true then ((ebegin_M tx_).bind fun r27 =>
need ((0 : Int) ≤ r27 ∧ (r27 : Int) ≤ 12) <|
rounds (fun k_ c_ s_ => tfind_R40 img l gw gi gb n_ tx_ r27 k_ c_) (fun s_ => tfind_D40) 12 0 ()) else (some (ByteArray.empty, 0, 0, 13))

theorem tfind_walk {img : List Int} {l : List (Int × Int)} {gw : Int} {gi : Int} {gb : Int} {n_ : Int} {tx_ : ByteArray} {mb vb : Nat} {r : ByteArray × Int × Int × Int} (B : Nat) (w : World) (hm : tfind_M img l gw gi gb n_ tx_ = some r) : Spec Tryz.prog 46 #[(.agg #[(.pointer (some ⟨vb, 0, none⟩)), (.int .i64 gw), (.int .i64 gi), (.int .i64 gb), (.pointer (some ⟨mb, 0, none⟩))]), (.string tx_)] B w [blk mb (.cells [(.pointer (some ⟨vb, 0, none⟩)), (.int .i64 gw), (.int .i64 gi), (.int .i64 gb), (.int .i64 n_)].toArray 164 (0, 0)), viewA (ptr vb) img l] (fun v H' => v = (.tuple #[(.agg #[(.string r.1), (.int .i64 r.2.1)]), (.int .i64 r.2.2.1), (.int .i64 r.2.2.2)]) ∧ H' = [blk mb (.cells [(.pointer (some ⟨vb, 0, none⟩)), (.int .i64 gw), (.int .i64 gi), (.int .i64 gb), (.int .i64 n_)].toArray 164 (0, 0)), viewA (ptr vb) img l]) := by
 refine spec_W Tryz.func46 rfl fun l0 hs => ?_
 unfold tfind_M at hm
 refine W.sr fun K1 hK1 => ?_
 refine zN [(.pointer (some ⟨vb, 0, none⟩)), (.int .i64 gw), (.int .i64 gi), (.int .i64 gb), (.pointer (some ⟨mb, 0, none⟩))] 97 hs fun b4 w2 hs3 => ?_
 refine zN [(.string tx_)] 9 hs3 fun b7 w5 hs6 => ?_
 refine zN [(.string ByteArray.empty), (.int .i64 0)] 33 hs6 fun b10 w8 hs9 => ?_
 refine zN [(.int .i64 0)] 3 hs9 fun b13 w11 hs12 => ?_
 refine zN [(.int .i64 0)] 34 hs12 fun b16 w14 hs15 => ?_
 refine zD (hK1 _ _ ?_)
 refine W.seq fun K17 hK17 => ?_
 refine W.sr fun K18 hK18 => ?_
 refine zL ⟨b7, 0, none⟩ (.string tx_) (hs15.cellAt 3 rfl rfl) ?_
 obtain ⟨r19, h20, hm⟩ := bind_some hm
 refine zC00 hs15 (emay_walk (tx_ := tx_) (hm := h20) B _) fun w21 hs23 => ?_
 refine zE 1 (hK18 _ _ ?_)
 refine W.cond (!r19) (by kernel_rfl) (fun h24 => ?_) (fun h24 => ?_)
 rotate_left
 ·
  have h24p : r19 = true := (bnot_false h24)
  replace hm := ite_yes hm h24p
  refine W.skip ?_
  refine hK17 _ _ ?_
  refine W.seq fun K25 hK25 => ?_
  refine W.sr fun K26 hK26 => ?_
  refine zL ⟨b7, 0, none⟩ (.string tx_) (hs23.cellAt 3 rfl rfl) ?_
  obtain ⟨r27, h28, hm⟩ := bind_some hm
  refine zC00 hs23 (ebegin_walk (tx_ := tx_) (hm := h28) B _) fun w29 hs31 => ?_
  refine ops_call0 hs31 (by kernel_rfl) (around_spec (f_ := r27) B _) ?_
  rintro _ _ w33 ⟨b32, rfl, rfl⟩ hs34
  have hs35 := St.ap1 hs34
  refine zD (hK26 _ _ ?_)
  refine W.block ?_
  obtain ⟨h36, hm⟩ := need_some hm
  refine W.norm (n := 37) (l := [(2, (.pointer (some ⟨b4, 0, none⟩))), (3, (.pointer (some ⟨b7, 0, none⟩))), (4, (.pointer (some ⟨b10, 0, none⟩))), (5, (.pointer (some ⟨b13, 0, none⟩))), (6, (.pointer (some ⟨b16, 0, none⟩))), (16, (.func (.func 83) #[] #[(.pointer (some ⟨b32, 0, none⟩))]))]) (by kernel_rfl) (fun us37 => ?_)
  have hs49 := St.f5 hs35
  have hs50 := St.f6 hs49
  have hs51 := St.f7 hs50
  have hs52 := St.f7 hs51
  have hs53 := St.f7 hs52
  have hs54 := St.f7 hs53
  have hs55 := St.f7 hs54
  have hs56 := St.f7 hs55
  have hF57 : rounds (fun k_ c_ s_ => tfind_R40 img l gw gi gb n_ tx_ r27 k_ c_) (fun s_ => tfind_D40) (12 - 0) 0 () = some r := by rw [Nat.sub_zero]; exact hm
  clear hm
  refine W.roundsA (G := Unit) (GZ := Int × Int × ByteArray × Int) (gf := 83) (lb := #[(.pointer (some ⟨b32, 0, none⟩))]) 12 (fun k_ _ => rounds (fun k_ c_ s_ => tfind_R40 img l gw gi gb n_ tx_ r27 k_ c_) (fun s_ => tfind_D40) (12 - k_) k_ () = some r) (fun _ => [blk b16 (.cells [(.int .i64 0)].toArray 34 (0, 0)), blk b13 (.cells [(.int .i64 0)].toArray 3 (0, 0)), blk b10 (.cells [(.string ByteArray.empty), (.int .i64 0)].toArray 33 (0, 0)), blk b7 (.cells [(.string tx_)].toArray 9 (0, 0)), viewA (ptr vb) img l, blk mb (.cells [(.pointer (some ⟨vb, 0, none⟩)), (.int .i64 gw), (.int .i64 gi), (.int .i64 gb), (.int .i64 n_)].toArray 164 (0, 0)), blk b4 (.cells [(.pointer (some ⟨vb, 0, none⟩)), (.int .i64 gw), (.int .i64 gi), (.int .i64 gb), (.pointer (some ⟨mb, 0, none⟩))].toArray 97 (0, 0))]) .ret (fun (p41, p42, p43, p44) => tfind_X40 p41 p42 p43 p44 = some r) (fun (p41, p42, p43, p44) => [blk b16 (.cells [(.int .i64 p41)].toArray 34 (0, 0)), blk b13 (.cells [(.int .i64 p42)].toArray 3 (0, 0)), blk b10 (.cells [(.string p43), (.int .i64 p44)].toArray 33 (0, 0)), blk b7 (.cells [(.string tx_)].toArray 9 (0, 0)), viewA (ptr vb) img l, blk mb (.cells [(.pointer (some ⟨vb, 0, none⟩)), (.int .i64 gw), (.int .i64 gi), (.int .i64 gb), (.int .i64 n_)].toArray 164 (0, 0)), blk b4 (.cells [(.pointer (some ⟨vb, 0, none⟩)), (.int .i64 gw), (.int .i64 gi), (.int .i64 gb), (.pointer (some ⟨mb, 0, none⟩))].toArray 97 (0, 0))]) [blk b32 (.cells [(.int .i64 r27)].toArray 3 (0, 0))] (fun k_ => #[(.int .i64 (((r27 : Int) + (k_ : Int)) % 12))]) (fun k_ l_ => slotsD 37 ((17, (.int .i64 (((r27 : Int) + (k_ : Int)) % 12))) :: [(2, (.pointer (some ⟨b4, 0, none⟩))), (3, (.pointer (some ⟨b7, 0, none⟩))), (4, (.pointer (some ⟨b10, 0, none⟩))), (5, (.pointer (some ⟨b13, 0, none⟩))), (6, (.pointer (some ⟨b16, 0, none⟩))), (16, (.func (.func 83) #[] #[(.pointer (some ⟨b32, 0, none⟩))]))]) us37 (some l_) []) () hF57 hs56 rfl (by kernel_rfl) (fun _ _ => by kernel_rfl) (fun _ => rfl) (fun a_ k_ l_ h1_ h2_ => ⟨rel_round1 (n := 37) (by decide) h1_ h2_, rfl⟩) (fun l_ => #[.func (.yield l_) #[] #[], (.pointer (some ⟨b32, 0, none⟩))]) (fun _ => rfl) (fun l_ w_ Y_ Z_ hy_ => around1_spec (f_ := r27) (yl := l_) (Y := Y_) (Z := Z_) (hf := h36) (hy := fun k_ h_ w_ => hy_ k_ h_ w_) _ w_) ?_ ?_ ?_
  rotate_left
  ·
   rintro D48 w58 _ hF60 hs59
   replace hF60 : rounds (fun k_ c_ s_ => tfind_R40 img l gw gi gb n_ tx_ r27 k_ c_) (fun s_ => tfind_D40) (12 - 12) 12 () = some r := hF60
   rw [rounds_end] at hF60
   have hm : tfind_D40 = some r := hF60
   clear hF60
   unfold tfind_D40 at hm
   have hs61 : St B w l0 w58 [blk D48 (.deferred (some [])), blk b32 (.cells [(.int .i64 r27)].toArray 3 (0, 0)), blk b16 (.cells [(.int .i64 0)].toArray 34 (0, 0)), blk b13 (.cells [(.int .i64 0)].toArray 3 (0, 0)), blk b10 (.cells [(.string ByteArray.empty), (.int .i64 0)].toArray 33 (0, 0)), blk b7 (.cells [(.string tx_)].toArray 9 (0, 0)), viewA (ptr vb) img l, blk mb (.cells [(.pointer (some ⟨vb, 0, none⟩)), (.int .i64 gw), (.int .i64 gi), (.int .i64 gb), (.int .i64 n_)].toArray 164 (0, 0)), blk b4 (.cells [(.pointer (some ⟨vb, 0, none⟩)), (.int .i64 gw), (.int .i64 gi), (.int .i64 gb), (.pointer (some ⟨mb, 0, none⟩))].toArray 97 (0, 0))] := hs59
   refine normal_block ?_
   refine hK25 _ _ ?_
   refine W.sr fun K62 hK62 => ?_
   refine zR 1 ?_
   have hs65 := St.f4 hs61
   refine ops_store (off := 0) (cs := [(.string ByteArray.empty), (.int .i64 0)]) (vs := [(.string ByteArray.empty), (.int .i64 0)]) hs65 (by kernel_rfl) (by simp) rfl (fun w63 hs64 => ?_)
   have hs66 : St B w l0 w63 [blk b10 (.cells [(.string ByteArray.empty), (.int .i64 0)].toArray 33 (0, 0)), blk D48 (.deferred (some [])), blk b32 (.cells [(.int .i64 r27)].toArray 3 (0, 0)), blk b16 (.cells [(.int .i64 0)].toArray 34 (0, 0)), blk b13 (.cells [(.int .i64 0)].toArray 3 (0, 0)), blk b7 (.cells [(.string tx_)].toArray 9 (0, 0)), viewA (ptr vb) img l, blk mb (.cells [(.pointer (some ⟨vb, 0, none⟩)), (.int .i64 gw), (.int .i64 gi), (.int .i64 gb), (.int .i64 n_)].toArray 164 (0, 0)), blk b4 (.cells [(.pointer (some ⟨vb, 0, none⟩)), (.int .i64 gw), (.int .i64 gi), (.int .i64 gb), (.pointer (some ⟨mb, 0, none⟩))].toArray 97 (0, 0))] := hs64
   have hs69 := St.f4 hs66
   refine ops_store (off := 0) (cs := [(.int .i64 0)]) (vs := [(.int .i64 0)]) hs69 (by kernel_rfl) (by simp) rfl (fun w67 hs68 => ?_)
   have hs70 : St B w l0 w67 [blk b13 (.cells [(.int .i64 0)].toArray 3 (0, 0)), blk b10 (.cells [(.string ByteArray.empty), (.int .i64 0)].toArray 33 (0, 0)), blk D48 (.deferred (some [])), blk b32 (.cells [(.int .i64 r27)].toArray 3 (0, 0)), blk b16 (.cells [(.int .i64 0)].toArray 34 (0, 0)), blk b7 (.cells [(.string tx_)].toArray 9 (0, 0)), viewA (ptr vb) img l, blk mb (.cells [(.pointer (some ⟨vb, 0, none⟩)), (.int .i64 gw), (.int .i64 gi), (.int .i64 gb), (.int .i64 n_)].toArray 164 (0, 0)), blk b4 (.cells [(.pointer (some ⟨vb, 0, none⟩)), (.int .i64 gw), (.int .i64 gi), (.int .i64 gb), (.pointer (some ⟨mb, 0, none⟩))].toArray 97 (0, 0))] := hs68
   have hs73 := St.f4 hs70
   refine ops_store (off := 0) (cs := [(.int .i64 0)]) (vs := [(.int .i64 6)]) hs73 (by kernel_rfl) (by simp) rfl (fun w71 hs72 => ?_)
   have hs74 : St B w l0 w71 [blk b16 (.cells [(.int .i64 6)].toArray 34 (0, 0)), blk b13 (.cells [(.int .i64 0)].toArray 3 (0, 0)), blk b10 (.cells [(.string ByteArray.empty), (.int .i64 0)].toArray 33 (0, 0)), blk D48 (.deferred (some [])), blk b32 (.cells [(.int .i64 r27)].toArray 3 (0, 0)), blk b7 (.cells [(.string tx_)].toArray 9 (0, 0)), viewA (ptr vb) img l, blk mb (.cells [(.pointer (some ⟨vb, 0, none⟩)), (.int .i64 gw), (.int .i64 gi), (.int .i64 gb), (.int .i64 n_)].toArray 164 (0, 0)), blk b4 (.cells [(.pointer (some ⟨vb, 0, none⟩)), (.int .i64 gw), (.int .i64 gi), (.int .i64 gb), (.pointer (some ⟨mb, 0, none⟩))].toArray 97 (0, 0))] := hs72
   refine zD (hK62 _ _ ?_)
   refine W.ret ?_
   obtain rfl := some_inj hm
   have hs75 := St.f8 hs74
   have hs76 := St.f8 hs75
   have hs77 := St.f8 hs76
   have hs78 := St.f8 hs77
   have hs79 := St.f8 hs78
   have hs80 := St.f7 hs79
   have hs81 := St.f7 hs80
   have hs82 := St.f7 hs81
   have hs83 := St.f8 hs82
   refine leave_mark (D := D48) (v := (.tuple #[(.agg #[(.string ByteArray.empty), (.int .i64 0)]), (.int .i64 0), (.int .i64 6)])) hs83 (by kernel_rfl) (fun w84 hs85 => (resD_three rfl (.agg (ad := ⟨b10, 0, none⟩) (cs := [(.string ByteArray.empty), (.int .i64 0)]) (by kernel_rfl) (by kernel_rfl) (cells_sub (hs85.heapAt 2 rfl) rfl)) (.cell (ad := ⟨b13, 0, none⟩) (by kernel_rfl) (by kernel_rfl) (hs85.cellAt 1 rfl rfl)) (.cell (ad := ⟨b16, 0, none⟩) (by kernel_rfl) (by kernel_rfl) (hs85.cellAt 0 rfl rfl)))) (fun w84 hs85 => ?_)
   have hs86 := St.f5 hs85
   have hs87 := St.f6 hs86
   have hs88 := St.tk2 hs87
   exact ⟨_, ⟨rfl, rfl⟩, hs88⟩
  ·
   rintro D91 w89 ⟨p41, p42, p43, p44⟩ hm hs90
   replace hm : tfind_X40 p41 p42 p43 p44 = some r := hm
   unfold tfind_X40 at hm
   have hs92 : St B w l0 w89 [blk D91 (.deferred (some [])), blk b32 (.cells [(.int .i64 r27)].toArray 3 (0, 0)), blk b16 (.cells [(.int .i64 p41)].toArray 34 (0, 0)), blk b13 (.cells [(.int .i64 p42)].toArray 3 (0, 0)), blk b10 (.cells [(.string p43), (.int .i64 p44)].toArray 33 (0, 0)), blk b7 (.cells [(.string tx_)].toArray 9 (0, 0)), viewA (ptr vb) img l, blk mb (.cells [(.pointer (some ⟨vb, 0, none⟩)), (.int .i64 gw), (.int .i64 gi), (.int .i64 gb), (.int .i64 n_)].toArray 164 (0, 0)), blk b4 (.cells [(.pointer (some ⟨vb, 0, none⟩)), (.int .i64 gw), (.int .i64 gi), (.int .i64 gb), (.pointer (some ⟨mb, 0, none⟩))].toArray 97 (0, 0))] := hs90
   refine W.ret (ret_block (ret_seq ?_))
   obtain rfl := some_inj hm
   refine leave_mark (D := D91) (v := (.tuple #[(.agg #[(.string p43), (.int .i64 p44)]), (.int .i64 p42), (.int .i64 p41)])) hs92 (by kernel_rfl) (fun w93 hs94 => (resD_three rfl (.agg (ad := ⟨b10, 0, none⟩) (cs := [(.string p43), (.int .i64 p44)]) (by kernel_rfl) (by kernel_rfl) (cells_sub (hs94.heapAt 3 rfl) rfl)) (.cell (ad := ⟨b13, 0, none⟩) (by kernel_rfl) (by kernel_rfl) (hs94.cellAt 2 rfl rfl)) (.cell (ad := ⟨b16, 0, none⟩) (by kernel_rfl) (by kernel_rfl) (hs94.cellAt 1 rfl rfl)))) (fun w93 hs94 => ?_)
   have hs95 := St.f5 hs94
   have hs96 := St.f6 hs95
   have hs97 := St.tk2 hs96
   exact ⟨_, ⟨rfl, rfl⟩, hs97⟩
  ·
   rintro k38 hk98 rc46 l45 w99 _ hF103 lf100 hs101 K102 hK102
   replace hF103 : rounds (fun k_ c_ s_ => tfind_R40 img l gw gi gb n_ tx_ r27 k_ c_) (fun s_ => tfind_D40) (12 - k38) k38 () = some r := hF103
   rw [rounds_at hk98] at hF103
   obtain ⟨c39, hc39⟩ : ∃ c_, c_ = rounds (fun k_ c_ s_ => tfind_R40 img l gw gi gb n_ tx_ r27 k_ c_) (fun s_ => tfind_D40) (12 - (k38 + 1)) (k38 + 1) := ⟨_, rfl⟩
   rw [← hc39] at hF103
   have hm : tfind_R40 img l gw gi gb n_ tx_ r27 k38 c39 = some r := hF103
   clear hF103
   unfold tfind_R40 at hm
   refine W.region ?_
   refine zR 1 ?_
   obtain ⟨r104, h105, hm⟩ := bind_some hm
   replace h105 := some_inj h105
   refine ops_set 7 (v := .int .i64 r104) (Eq.trans (by kernel_rfl) (congrArg (Value.int .i64) h105)) ?_
   refine zD ?_
   refine hK102 _ _ hs101 (fun w106 hs107 => ?_)
   refine W.block ?_
   refine W.sr fun K108 hK108 => ?_
   refine ops_R (runs_loadAgg (ad := ⟨b4, 0, none⟩) (cs := [(.pointer (some ⟨vb, 0, none⟩)), (.int .i64 gw), (.int .i64 gi), (.int .i64 gb), (.pointer (some ⟨mb, 0, none⟩))]) (by kernel_rfl) (cells_sub (hs107.heapAt 7 rfl) rfl)) ?_
   refine zR 1 ?_
   obtain ⟨r109, h110, hm⟩ := bind_some hm
   have hs111 := St.f5 hs107
   have hs112 := St.f6 hs111
   refine zC22 hs112 (tentry_walk (mb := mb) (vb := vb) (k_ := r104) (img := img) (l := l) (gw := gw) (gi := gi) (gb := gb) (n_ := n_) (hm := h110) B _) fun w113 hs115 => ?_
   refine zR 3 ?_
   refine zN [(.string ByteArray.empty), (.int .i64 0)] 33 hs115 fun b118 w116 hs117 => ?_
   refine ops_store (off := 0) (cs := [(.string ByteArray.empty), (.int .i64 0)]) (vs := [(.string r109.1), (.int .i64 r109.2.1)]) hs117 (by kernel_rfl) (by simp) rfl (fun w119 hs120 => ?_)
   have hs121 : St B w99 lf100 w119 [blk b118 (.cells [(.string r109.1), (.int .i64 r109.2.1)].toArray 33 (0, 0)), blk mb (.cells [(.pointer (some ⟨vb, 0, none⟩)), (.int .i64 gw), (.int .i64 gi), (.int .i64 gb), (.int .i64 n_)].toArray 164 (0, 0)), viewA (ptr vb) img l, blk l45 (.loop { rc46 with state := .busy }), blk b16 (.cells [(.int .i64 0)].toArray 34 (0, 0)), blk b13 (.cells [(.int .i64 0)].toArray 3 (0, 0)), blk b10 (.cells [(.string ByteArray.empty), (.int .i64 0)].toArray 33 (0, 0)), blk b7 (.cells [(.string tx_)].toArray 9 (0, 0)), blk b4 (.cells [(.pointer (some ⟨vb, 0, none⟩)), (.int .i64 gw), (.int .i64 gi), (.int .i64 gb), (.pointer (some ⟨mb, 0, none⟩))].toArray 97 (0, 0))] := hs120
   refine zE 1 (hK108 _ _ ?_)
   refine W.seq fun K122 hK122 => ?_
   refine W.sr fun K123 hK123 => ?_
   refine zE 2 (hK123 _ _ ?_)
   refine W.cond (!decide (r109.2.2 = 0)) (by kernel_rfl) (fun h124 => ?_) (fun h124 => ?_)
   rotate_left
   ·
    have h124p : r109.2.2 = 0 := of_decide_eq_true (bnot_false h124)
    replace hm := ite_yes hm h124p
    refine W.skip ?_
    refine hK122 _ _ ?_
    refine W.sr fun K125 hK125 => ?_
    refine ops_R (runs_loadAgg (ad := ⟨b118, 0, none⟩) (cs := [(.string r109.1), (.int .i64 r109.2.1)]) (by kernel_rfl) (cells_sub (hs121.heapAt 0 rfl) rfl)) ?_
    refine zL ⟨b7, 0, none⟩ (.string tx_) (hs121.cellAt 7 rfl rfl) ?_
    refine zR 1 ?_
    refine zL ⟨b118, 1, none⟩ (.int .i64 r109.2.1) (hs121.cellAt 0 rfl rfl) ?_
    refine zR 1 ?_
    refine ops_R (v := (.bool ((r109.1 == tx_) && ((decide (r109.2.1 = r109.2.1)) && true)))) (runs_eq (b := ((r109.1 == tx_) && ((decide (r109.2.1 = r109.2.1)) && true))) (by kernel_rfl)) ?_
    refine zD (hK125 _ _ ?_)
    refine W.cond ((r109.1 == tx_) && ((decide (r109.2.1 = r109.2.1)) && true)) (by kernel_rfl) (fun h126 => ?_) (fun h126 => ?_)
    ·
     have h126p : r109.1 = tx_ ∧ r109.2.1 = r109.2.1 := by simpa using h126
     replace hm := ite_yes hm h126p
     refine W.sr fun K127 hK127 => ?_
     refine ops_R (runs_loadAgg (ad := ⟨b118, 0, none⟩) (cs := [(.string r109.1), (.int .i64 r109.2.1)]) (by kernel_rfl) (cells_sub (hs121.heapAt 0 rfl) rfl)) ?_
     refine zR 1 ?_
     have hs130 := St.f6 hs121
     refine ops_store (off := 0) (cs := [(.string ByteArray.empty), (.int .i64 0)]) (vs := [(.string r109.1), (.int .i64 r109.2.1)]) hs130 (by kernel_rfl) (by simp) rfl (fun w128 hs129 => ?_)
     have hs131 : St B w99 lf100 w128 [blk b10 (.cells [(.string r109.1), (.int .i64 r109.2.1)].toArray 33 (0, 0)), blk b118 (.cells [(.string r109.1), (.int .i64 r109.2.1)].toArray 33 (0, 0)), blk mb (.cells [(.pointer (some ⟨vb, 0, none⟩)), (.int .i64 gw), (.int .i64 gi), (.int .i64 gb), (.int .i64 n_)].toArray 164 (0, 0)), viewA (ptr vb) img l, blk l45 (.loop { rc46 with state := .busy }), blk b16 (.cells [(.int .i64 0)].toArray 34 (0, 0)), blk b13 (.cells [(.int .i64 0)].toArray 3 (0, 0)), blk b7 (.cells [(.string tx_)].toArray 9 (0, 0)), blk b4 (.cells [(.pointer (some ⟨vb, 0, none⟩)), (.int .i64 gw), (.int .i64 gi), (.int .i64 gb), (.pointer (some ⟨mb, 0, none⟩))].toArray 97 (0, 0))] := hs129
     have hs134 := St.f6 hs131
     refine ops_store (off := 0) (cs := [(.int .i64 0)]) (vs := [(.int .i64 r104)]) hs134 (by kernel_rfl) (by simp) rfl (fun w132 hs133 => ?_)
     have hs135 : St B w99 lf100 w132 [blk b13 (.cells [(.int .i64 r104)].toArray 3 (0, 0)), blk b10 (.cells [(.string r109.1), (.int .i64 r109.2.1)].toArray 33 (0, 0)), blk b118 (.cells [(.string r109.1), (.int .i64 r109.2.1)].toArray 33 (0, 0)), blk mb (.cells [(.pointer (some ⟨vb, 0, none⟩)), (.int .i64 gw), (.int .i64 gi), (.int .i64 gb), (.int .i64 n_)].toArray 164 (0, 0)), viewA (ptr vb) img l, blk l45 (.loop { rc46 with state := .busy }), blk b16 (.cells [(.int .i64 0)].toArray 34 (0, 0)), blk b7 (.cells [(.string tx_)].toArray 9 (0, 0)), blk b4 (.cells [(.pointer (some ⟨vb, 0, none⟩)), (.int .i64 gw), (.int .i64 gi), (.int .i64 gb), (.pointer (some ⟨mb, 0, none⟩))].toArray 97 (0, 0))] := hs133
     have hs138 := St.f6 hs135
     refine ops_store (off := 0) (cs := [(.int .i64 0)]) (vs := [(.int .i64 0)]) hs138 (by kernel_rfl) (by simp) rfl (fun w136 hs137 => ?_)
     have hs139 : St B w99 lf100 w136 [blk b16 (.cells [(.int .i64 0)].toArray 34 (0, 0)), blk b13 (.cells [(.int .i64 r104)].toArray 3 (0, 0)), blk b10 (.cells [(.string r109.1), (.int .i64 r109.2.1)].toArray 33 (0, 0)), blk b118 (.cells [(.string r109.1), (.int .i64 r109.2.1)].toArray 33 (0, 0)), blk mb (.cells [(.pointer (some ⟨vb, 0, none⟩)), (.int .i64 gw), (.int .i64 gi), (.int .i64 gb), (.int .i64 n_)].toArray 164 (0, 0)), viewA (ptr vb) img l, blk l45 (.loop { rc46 with state := .busy }), blk b7 (.cells [(.string tx_)].toArray 9 (0, 0)), blk b4 (.cells [(.pointer (some ⟨vb, 0, none⟩)), (.int .i64 gw), (.int .i64 gi), (.int .i64 gb), (.pointer (some ⟨mb, 0, none⟩))].toArray 97 (0, 0))] := hs137
     refine zD (hK127 _ _ ?_)
     refine W.ret (ret_block ?_)
     have hs140 := St.f8 hs139
     have hs141 := St.f5 hs140
     have hs142 := St.f6 hs141
     have hs143 := St.f8 hs142
     have hs144 := St.f6 hs143
     have hs145 := St.f6 hs144
     have hs146 := St.f6 hs145
     have hs147 := St.f8 hs146
     have hs148 := St.tk8 hs147
     exact ⟨rfl, (0, r104, r109.1, r109.2.1), hm, hs148⟩
    ·
     have h126p : ¬ (r109.1 = tx_ ∧ r109.2.1 = r109.2.1) := by simpa using h126
     replace hm := ite_no hm h126p
     refine W.skip ?_
     refine normal_block ?_
     have hs149 := St.f8 hs121
     have hs150 := St.f2 hs149
     have hs151 := St.f3 hs150
     have hs152 := St.f8 hs151
     have hs153 := St.f8 hs152
     have hs154 := St.f8 hs153
     have hs155 := St.f8 hs154
     have hs156 := St.f8 hs155
     have hs157 := St.tk8 hs156
     rw [hc39] at hm
     exact ⟨(), hm, hs157⟩
   ·
    have h124p : ¬ (r109.2.2 = 0) := of_decide_eq_false (bnot_true h124)
    replace hm := ite_no hm h124p
    refine W.sr fun K158 hK158 => ?_
    refine zR 2 ?_
    have hs161 := St.f6 hs121
    refine ops_store (off := 0) (cs := [(.string ByteArray.empty), (.int .i64 0)]) (vs := [(.string ByteArray.empty), (.int .i64 0)]) hs161 (by kernel_rfl) (by simp) rfl (fun w159 hs160 => ?_)
    have hs162 : St B w99 lf100 w159 [blk b10 (.cells [(.string ByteArray.empty), (.int .i64 0)].toArray 33 (0, 0)), blk b118 (.cells [(.string r109.1), (.int .i64 r109.2.1)].toArray 33 (0, 0)), blk mb (.cells [(.pointer (some ⟨vb, 0, none⟩)), (.int .i64 gw), (.int .i64 gi), (.int .i64 gb), (.int .i64 n_)].toArray 164 (0, 0)), viewA (ptr vb) img l, blk l45 (.loop { rc46 with state := .busy }), blk b16 (.cells [(.int .i64 0)].toArray 34 (0, 0)), blk b13 (.cells [(.int .i64 0)].toArray 3 (0, 0)), blk b7 (.cells [(.string tx_)].toArray 9 (0, 0)), blk b4 (.cells [(.pointer (some ⟨vb, 0, none⟩)), (.int .i64 gw), (.int .i64 gi), (.int .i64 gb), (.pointer (some ⟨mb, 0, none⟩))].toArray 97 (0, 0))] := hs160
    have hs165 := St.f6 hs162
    refine ops_store (off := 0) (cs := [(.int .i64 0)]) (vs := [(.int .i64 0)]) hs165 (by kernel_rfl) (by simp) rfl (fun w163 hs164 => ?_)
    have hs166 : St B w99 lf100 w163 [blk b13 (.cells [(.int .i64 0)].toArray 3 (0, 0)), blk b10 (.cells [(.string ByteArray.empty), (.int .i64 0)].toArray 33 (0, 0)), blk b118 (.cells [(.string r109.1), (.int .i64 r109.2.1)].toArray 33 (0, 0)), blk mb (.cells [(.pointer (some ⟨vb, 0, none⟩)), (.int .i64 gw), (.int .i64 gi), (.int .i64 gb), (.int .i64 n_)].toArray 164 (0, 0)), viewA (ptr vb) img l, blk l45 (.loop { rc46 with state := .busy }), blk b16 (.cells [(.int .i64 0)].toArray 34 (0, 0)), blk b7 (.cells [(.string tx_)].toArray 9 (0, 0)), blk b4 (.cells [(.pointer (some ⟨vb, 0, none⟩)), (.int .i64 gw), (.int .i64 gi), (.int .i64 gb), (.pointer (some ⟨mb, 0, none⟩))].toArray 97 (0, 0))] := hs164
    have hs169 := St.f6 hs166
    refine ops_store (off := 0) (cs := [(.int .i64 0)]) (vs := [(.int .i64 r109.2.2)]) hs169 (by kernel_rfl) (by simp) rfl (fun w167 hs168 => ?_)
    have hs170 : St B w99 lf100 w167 [blk b16 (.cells [(.int .i64 r109.2.2)].toArray 34 (0, 0)), blk b13 (.cells [(.int .i64 0)].toArray 3 (0, 0)), blk b10 (.cells [(.string ByteArray.empty), (.int .i64 0)].toArray 33 (0, 0)), blk b118 (.cells [(.string r109.1), (.int .i64 r109.2.1)].toArray 33 (0, 0)), blk mb (.cells [(.pointer (some ⟨vb, 0, none⟩)), (.int .i64 gw), (.int .i64 gi), (.int .i64 gb), (.int .i64 n_)].toArray 164 (0, 0)), viewA (ptr vb) img l, blk l45 (.loop { rc46 with state := .busy }), blk b7 (.cells [(.string tx_)].toArray 9 (0, 0)), blk b4 (.cells [(.pointer (some ⟨vb, 0, none⟩)), (.int .i64 gw), (.int .i64 gi), (.int .i64 gb), (.pointer (some ⟨mb, 0, none⟩))].toArray 97 (0, 0))] := hs168
    refine zD (hK158 _ _ ?_)
    refine W.ret (ret_seq (ret_block ?_))
    have hs171 := St.f8 hs170
    have hs172 := St.f5 hs171
    have hs173 := St.f6 hs172
    have hs174 := St.f8 hs173
    have hs175 := St.f6 hs174
    have hs176 := St.f6 hs175
    have hs177 := St.f6 hs176
    have hs178 := St.f8 hs177
    have hs179 := St.tk8 hs178
    exact ⟨rfl, (r109.2.2, 0, ByteArray.empty, 0), hm, hs179⟩
 ·
  have h24p : ¬ (r19 = true) := ne_true_of_eq_false (bnot_true h24)
  replace hm := ite_no hm h24p
  refine W.sr fun K180 hK180 => ?_
  refine zR 1 ?_
  have hs183 := St.f2 hs23
  refine ops_store (off := 0) (cs := [(.string ByteArray.empty), (.int .i64 0)]) (vs := [(.string ByteArray.empty), (.int .i64 0)]) hs183 (by kernel_rfl) (by simp) rfl (fun w181 hs182 => ?_)
  have hs184 : St B w l0 w181 [blk b10 (.cells [(.string ByteArray.empty), (.int .i64 0)].toArray 33 (0, 0)), blk b16 (.cells [(.int .i64 0)].toArray 34 (0, 0)), blk b13 (.cells [(.int .i64 0)].toArray 3 (0, 0)), blk b7 (.cells [(.string tx_)].toArray 9 (0, 0)), blk b4 (.cells [(.pointer (some ⟨vb, 0, none⟩)), (.int .i64 gw), (.int .i64 gi), (.int .i64 gb), (.pointer (some ⟨mb, 0, none⟩))].toArray 97 (0, 0)), blk mb (.cells [(.pointer (some ⟨vb, 0, none⟩)), (.int .i64 gw), (.int .i64 gi), (.int .i64 gb), (.int .i64 n_)].toArray 164 (0, 0)), viewA (ptr vb) img l] := hs182
  have hs187 := St.f2 hs184
  refine ops_store (off := 0) (cs := [(.int .i64 0)]) (vs := [(.int .i64 0)]) hs187 (by kernel_rfl) (by simp) rfl (fun w185 hs186 => ?_)
  have hs188 : St B w l0 w185 [blk b13 (.cells [(.int .i64 0)].toArray 3 (0, 0)), blk b10 (.cells [(.string ByteArray.empty), (.int .i64 0)].toArray 33 (0, 0)), blk b16 (.cells [(.int .i64 0)].toArray 34 (0, 0)), blk b7 (.cells [(.string tx_)].toArray 9 (0, 0)), blk b4 (.cells [(.pointer (some ⟨vb, 0, none⟩)), (.int .i64 gw), (.int .i64 gi), (.int .i64 gb), (.pointer (some ⟨mb, 0, none⟩))].toArray 97 (0, 0)), blk mb (.cells [(.pointer (some ⟨vb, 0, none⟩)), (.int .i64 gw), (.int .i64 gi), (.int .i64 gb), (.int .i64 n_)].toArray 164 (0, 0)), viewA (ptr vb) img l] := hs186
  have hs191 := St.f2 hs188
  refine ops_store (off := 0) (cs := [(.int .i64 0)]) (vs := [(.int .i64 13)]) hs191 (by kernel_rfl) (by simp) rfl (fun w189 hs190 => ?_)
  have hs192 : St B w l0 w189 [blk b16 (.cells [(.int .i64 13)].toArray 34 (0, 0)), blk b13 (.cells [(.int .i64 0)].toArray 3 (0, 0)), blk b10 (.cells [(.string ByteArray.empty), (.int .i64 0)].toArray 33 (0, 0)), blk b7 (.cells [(.string tx_)].toArray 9 (0, 0)), blk b4 (.cells [(.pointer (some ⟨vb, 0, none⟩)), (.int .i64 gw), (.int .i64 gi), (.int .i64 gb), (.pointer (some ⟨mb, 0, none⟩))].toArray 97 (0, 0)), blk mb (.cells [(.pointer (some ⟨vb, 0, none⟩)), (.int .i64 gw), (.int .i64 gi), (.int .i64 gb), (.int .i64 n_)].toArray 164 (0, 0)), viewA (ptr vb) img l] := hs190
  refine zD (hK180 _ _ ?_)
  refine W.ret (ret_seq ?_)
  obtain rfl := some_inj hm
  have hs193 := St.f6 hs192
  have hs194 := St.f6 hs193
  have hs195 := St.tk2 hs194
  refine ret_of (.tuple #[(.agg #[(.string ByteArray.empty), (.int .i64 0)]), (.int .i64 0), (.int .i64 13)]) (resS_of (by kernel_rfl) (resD_three rfl (.agg (ad := ⟨b10, 0, none⟩) (cs := [(.string ByteArray.empty), (.int .i64 0)]) (by kernel_rfl) (by kernel_rfl) (cells_sub (hs192.heapAt 2 rfl) rfl)) (.cell (ad := ⟨b13, 0, none⟩) (by kernel_rfl) (by kernel_rfl) (hs192.cellAt 1 rfl rfl)) (.cell (ad := ⟨b16, 0, none⟩) (by kernel_rfl) (by kernel_rfl) (hs192.cellAt 0 rfl rfl)))) ⟨_, ⟨rfl, rfl⟩, hs195⟩

end Go.Proofs.YtmmclabkkigiaaaGreatDoor

set_option maxRecDepth 20000
set_option maxHeartbeats 1000000
namespace Go.Proofs.YtmmclabkkigiaaaGreatDoor
open Go Go.RowKit
set_option linter.unusedSimpArgs false
set_option linter.unusedVariables false

theorem bof_ok {vb : Nat} {img : List Int} {l : List (Int × Int)} {gw gi gb n_ : Int} (B : Nat) (w : World) (hv : ViewAt (ptr vb) img l w) (hP : (igetM img l gw gi gb n_).2 = 0) : Spec Tryz.prog 82 #[(.pointer (some ⟨vb, 0, none⟩)), (.agg #[(.int .i64 gw), (.int .i64 gi), (.int .i64 gb)]), (.int .i64 n_)] B w [] (fun v H' => ∃ mb, v = .tuple #[ptr mb, .int .i64 0] ∧ H' = [blk mb (.cells [(.pointer (some ⟨vb, 0, none⟩)), (.int .i64 gw), (.int .i64 gi), (.int .i64 gb), (.int .i64 n_)].toArray 164 (0, 0))]) := by
 refine spec_Q Tryz.func82 rfl fun hs => ?_
 refine W.sr fun K1 hK1 => ?_
 refine zN [(.int .i64 gw), (.int .i64 gi), (.int .i64 gb)] 31 hs fun b4 w2 hs3 => ?_
 refine zE 2 (hK1 _ _ ?_)
 refine W.sr fun K5 hK5 => ?_
 refine zR 1 ?_
 refine ops_R (runs_loadAgg (ad := ⟨b4, 0, none⟩) (cs := [(.int .i64 gw), (.int .i64 gi), (.int .i64 gb)]) (by kernel_rfl) (cells_sub (hs3.heapAt 0 rfl) rfl)) ?_
 refine zR 1 ?_
 refine zC00 hs3 (ig_spec (gw := gw) (gi := gi) (gb := gb) (n_ := n_) (hv := (viewAt_old hs3 hv)) B _) fun w6 hs8 => ?_
 refine zR 3 ?_
 refine zN [(.int .u64 0), (.int .u64 0), (.int .u64 0), (.int .u64 0), (.int .u64 0), (.int .u64 0), (.int .u64 0), (.int .u64 0), (.int .u64 0), (.int .u64 0)] 153 hs8 fun b11 w9 hs10 => ?_
 refine ops_store (off := 0) (cs := [(.int .u64 0), (.int .u64 0), (.int .u64 0), (.int .u64 0), (.int .u64 0), (.int .u64 0), (.int .u64 0), (.int .u64 0), (.int .u64 0), (.int .u64 0)]) (vs := [(.int .u64 ((igetM img l gw gi gb n_).1.k)), (.int .u64 ((igetM img l gw gi gb n_).1.l)), (.int .u64 ((igetM img l gw gi gb n_).1.o)), (.int .u64 ((igetM img l gw gi gb n_).1.s)), (.int .u64 ((igetM img l gw gi gb n_).1.a)), (.int .u64 ((igetM img l gw gi gb n_).1.b)), (.int .u64 ((igetM img l gw gi gb n_).1.c)), (.int .u64 ((igetM img l gw gi gb n_).1.d)), (.int .u64 ((igetM img l gw gi gb n_).1.e)), (.int .u64 ((igetM img l gw gi gb n_).1.m))]) hs10 (by kernel_rfl) (by simp) rfl (fun w12 hs13 => ?_)
 have hs14 : St B w [] w12 [blk b11 (.cells [(.int .u64 ((igetM img l gw gi gb n_).1.k)), (.int .u64 ((igetM img l gw gi gb n_).1.l)), (.int .u64 ((igetM img l gw gi gb n_).1.o)), (.int .u64 ((igetM img l gw gi gb n_).1.s)), (.int .u64 ((igetM img l gw gi gb n_).1.a)), (.int .u64 ((igetM img l gw gi gb n_).1.b)), (.int .u64 ((igetM img l gw gi gb n_).1.c)), (.int .u64 ((igetM img l gw gi gb n_).1.d)), (.int .u64 ((igetM img l gw gi gb n_).1.e)), (.int .u64 ((igetM img l gw gi gb n_).1.m))].toArray 153 (0, 0)), blk b4 (.cells [(.int .i64 gw), (.int .i64 gi), (.int .i64 gb)].toArray 31 (0, 0))] := hs13
 refine zE 1 (hK5 _ _ ?_)
 refine W.seq fun K15 hK15 => ?_
 refine W.sr fun K16 hK16 => ?_
 refine zE 2 (hK16 _ _ ?_)
 refine W.cond (!decide ((igetM img l gw gi gb n_).2 = 0)) (by kernel_rfl) (fun h17 => ?_) (fun h17 => ?_)
 ·
  have h17p : ¬ ((igetM img l gw gi gb n_).2 = 0) := of_decide_eq_false (bnot_true h17)
  refine W.sr fun K18 hK18 => ?_
  refine zE 3 (hK18 _ _ ?_)
  refine W.ret (ret_seq ?_)
  exact absurd hP (by assumption)
 ·
  have h17p : (igetM img l gw gi gb n_).2 = 0 := of_decide_eq_true (bnot_false h17)
  refine W.skip ?_
  refine hK15 _ _ ?_
  refine W.sr fun K19 hK19 => ?_
  refine zR 1 ?_
  refine ops_R (runs_loadAgg (ad := ⟨b4, 0, none⟩) (cs := [(.int .i64 gw), (.int .i64 gi), (.int .i64 gb)]) (by kernel_rfl) (cells_sub (hs14.heapAt 1 rfl) rfl)) ?_
  refine zR 2 ?_
  refine zN [(.pointer (some ⟨vb, 0, none⟩)), (.int .i64 gw), (.int .i64 gi), (.int .i64 gb), (.int .i64 n_)] 164 hs14 fun b22 w20 hs21 => ?_
  refine zE 2 (hK19 _ _ ?_)
  refine W.ret ?_
  have hs23 := St.tk1 hs21
  refine ret_of (.tuple #[(.pointer (some ⟨b22, 0, none⟩)), (.int .i64 0)]) (by kernel_rfl) ⟨_, ⟨b22, rfl, rfl⟩, hs23⟩

theorem bof_err {vb : Nat} {img : List Int} {l : List (Int × Int)} {gw gi gb n_ : Int} (B : Nat) (w : World) (hv : ViewAt (ptr vb) img l w) (hN : ¬ ((igetM img l gw gi gb n_).2 = 0)) : Spec Tryz.prog 82 #[(.pointer (some ⟨vb, 0, none⟩)), (.agg #[(.int .i64 gw), (.int .i64 gi), (.int .i64 gb)]), (.int .i64 n_)] B w [] (fun v H' => v = .tuple #[.pointer none, .int .i64 ((igetM img l gw gi gb n_).2)] ∧ H' = []) := by
 refine spec_Q Tryz.func82 rfl fun hs => ?_
 refine W.sr fun K1 hK1 => ?_
 refine zN [(.int .i64 gw), (.int .i64 gi), (.int .i64 gb)] 31 hs fun b4 w2 hs3 => ?_
 refine zE 2 (hK1 _ _ ?_)
 refine W.sr fun K5 hK5 => ?_
 refine zR 1 ?_
 refine ops_R (runs_loadAgg (ad := ⟨b4, 0, none⟩) (cs := [(.int .i64 gw), (.int .i64 gi), (.int .i64 gb)]) (by kernel_rfl) (cells_sub (hs3.heapAt 0 rfl) rfl)) ?_
 refine zR 1 ?_
 refine zC00 hs3 (ig_spec (gw := gw) (gi := gi) (gb := gb) (n_ := n_) (hv := (viewAt_old hs3 hv)) B _) fun w6 hs8 => ?_
 refine zR 3 ?_
 refine zN [(.int .u64 0), (.int .u64 0), (.int .u64 0), (.int .u64 0), (.int .u64 0), (.int .u64 0), (.int .u64 0), (.int .u64 0), (.int .u64 0), (.int .u64 0)] 153 hs8 fun b11 w9 hs10 => ?_
 refine ops_store (off := 0) (cs := [(.int .u64 0), (.int .u64 0), (.int .u64 0), (.int .u64 0), (.int .u64 0), (.int .u64 0), (.int .u64 0), (.int .u64 0), (.int .u64 0), (.int .u64 0)]) (vs := [(.int .u64 ((igetM img l gw gi gb n_).1.k)), (.int .u64 ((igetM img l gw gi gb n_).1.l)), (.int .u64 ((igetM img l gw gi gb n_).1.o)), (.int .u64 ((igetM img l gw gi gb n_).1.s)), (.int .u64 ((igetM img l gw gi gb n_).1.a)), (.int .u64 ((igetM img l gw gi gb n_).1.b)), (.int .u64 ((igetM img l gw gi gb n_).1.c)), (.int .u64 ((igetM img l gw gi gb n_).1.d)), (.int .u64 ((igetM img l gw gi gb n_).1.e)), (.int .u64 ((igetM img l gw gi gb n_).1.m))]) hs10 (by kernel_rfl) (by simp) rfl (fun w12 hs13 => ?_)
 have hs14 : St B w [] w12 [blk b11 (.cells [(.int .u64 ((igetM img l gw gi gb n_).1.k)), (.int .u64 ((igetM img l gw gi gb n_).1.l)), (.int .u64 ((igetM img l gw gi gb n_).1.o)), (.int .u64 ((igetM img l gw gi gb n_).1.s)), (.int .u64 ((igetM img l gw gi gb n_).1.a)), (.int .u64 ((igetM img l gw gi gb n_).1.b)), (.int .u64 ((igetM img l gw gi gb n_).1.c)), (.int .u64 ((igetM img l gw gi gb n_).1.d)), (.int .u64 ((igetM img l gw gi gb n_).1.e)), (.int .u64 ((igetM img l gw gi gb n_).1.m))].toArray 153 (0, 0)), blk b4 (.cells [(.int .i64 gw), (.int .i64 gi), (.int .i64 gb)].toArray 31 (0, 0))] := hs13
 refine zE 1 (hK5 _ _ ?_)
 refine W.seq fun K15 hK15 => ?_
 refine W.sr fun K16 hK16 => ?_
 refine zE 2 (hK16 _ _ ?_)
 refine W.cond (!decide ((igetM img l gw gi gb n_).2 = 0)) (by kernel_rfl) (fun h17 => ?_) (fun h17 => ?_)
 ·
  have h17p : ¬ ((igetM img l gw gi gb n_).2 = 0) := of_decide_eq_false (bnot_true h17)
  refine W.sr fun K18 hK18 => ?_
  refine zE 3 (hK18 _ _ ?_)
  refine W.ret (ret_seq ?_)
  have hs19 := St.tk0 hs14
  refine ret_of (.tuple #[(.pointer none), (.int .i64 ((igetM img l gw gi gb n_).2))]) (by kernel_rfl) ⟨_, ⟨rfl, rfl⟩, hs19⟩
 ·
  have h17p : (igetM img l gw gi gb n_).2 = 0 := of_decide_eq_true (bnot_false h17)
  refine W.skip ?_
  refine hK15 _ _ ?_
  refine W.sr fun K20 hK20 => ?_
  refine zR 1 ?_
  refine ops_R (runs_loadAgg (ad := ⟨b4, 0, none⟩) (cs := [(.int .i64 gw), (.int .i64 gi), (.int .i64 gb)]) (by kernel_rfl) (cells_sub (hs14.heapAt 1 rfl) rfl)) ?_
  refine zR 2 ?_
  refine zN [(.pointer (some ⟨vb, 0, none⟩)), (.int .i64 gw), (.int .i64 gi), (.int .i64 gb), (.int .i64 n_)] 164 hs14 fun b23 w21 hs22 => ?_
  refine zE 2 (hK20 _ _ ?_)
  refine W.ret ?_
  exact absurd (by assumption) hN

end Go.Proofs.YtmmclabkkigiaaaGreatDoor

set_option maxRecDepth 20000
set_option maxHeartbeats 2000000
namespace Go.Proofs.YtmmclabkkigiaaaGreatDoor
open Go Go.RowKit
set_option linter.unusedSimpArgs false
set_option linter.unusedVariables false

theorem eopen_ok {vb : Nat} {img : List Int} {l : List (Int × Int)} {gw gi gb n_ : Int} (B : Nat) (w : World) (hv : ViewAt (ptr vb) img l w) (hP : (igetM img l gw gi gb n_).2 = 0) (hK : (igetM img l gw gi gb n_).1.k = 2) : Spec Tryz.prog 45 #[(.pointer (some ⟨vb, 0, none⟩)), (.agg #[(.int .i64 gw), (.int .i64 gi), (.int .i64 gb)]), (.int .i64 n_)] B w [] (fun v H' => ∃ mb, v = (.tuple #[(.agg #[(.pointer (some ⟨vb, 0, none⟩)), (.int .i64 gw), (.int .i64 gi), (.int .i64 gb), (.pointer (some ⟨mb, 0, none⟩))]), (.int .i64 0)]) ∧ H' = [blk mb (.cells [(.pointer (some ⟨vb, 0, none⟩)), (.int .i64 gw), (.int .i64 gi), (.int .i64 gb), (.int .i64 n_)].toArray 164 (0, 0))]) := by
 refine spec_Q Tryz.func45 rfl fun hs => ?_
 refine W.sr fun K1 hK1 => ?_
 refine zN [(.int .i64 gw), (.int .i64 gi), (.int .i64 gb)] 31 hs fun b4 w2 hs3 => ?_
 refine zN [(.pointer none), (.int .i64 0), (.int .i64 0), (.int .i64 0), (.pointer none)] 97 hs3 fun b7 w5 hs6 => ?_
 refine zE 1 (hK1 _ _ ?_)
 refine W.sr fun K8 hK8 => ?_
 refine zR 1 ?_
 refine ops_R (runs_loadAgg (ad := ⟨b4, 0, none⟩) (cs := [(.int .i64 gw), (.int .i64 gi), (.int .i64 gb)]) (by kernel_rfl) (cells_sub (hs6.heapAt 1 rfl) rfl)) ?_
 refine zR 1 ?_
 refine zC00 hs6 (ig_spec (gw := gw) (gi := gi) (gb := gb) (n_ := n_) (hv := (viewAt_old hs6 hv)) B _) fun w9 hs11 => ?_
 refine zR 3 ?_
 refine zN [(.int .u64 0), (.int .u64 0), (.int .u64 0), (.int .u64 0), (.int .u64 0), (.int .u64 0), (.int .u64 0), (.int .u64 0), (.int .u64 0), (.int .u64 0)] 153 hs11 fun b14 w12 hs13 => ?_
 refine ops_store (off := 0) (cs := [(.int .u64 0), (.int .u64 0), (.int .u64 0), (.int .u64 0), (.int .u64 0), (.int .u64 0), (.int .u64 0), (.int .u64 0), (.int .u64 0), (.int .u64 0)]) (vs := [(.int .u64 ((igetM img l gw gi gb n_).1.k)), (.int .u64 ((igetM img l gw gi gb n_).1.l)), (.int .u64 ((igetM img l gw gi gb n_).1.o)), (.int .u64 ((igetM img l gw gi gb n_).1.s)), (.int .u64 ((igetM img l gw gi gb n_).1.a)), (.int .u64 ((igetM img l gw gi gb n_).1.b)), (.int .u64 ((igetM img l gw gi gb n_).1.c)), (.int .u64 ((igetM img l gw gi gb n_).1.d)), (.int .u64 ((igetM img l gw gi gb n_).1.e)), (.int .u64 ((igetM img l gw gi gb n_).1.m))]) hs13 (by kernel_rfl) (by simp) rfl (fun w15 hs16 => ?_)
 have hs17 : St B w [] w15 [blk b14 (.cells [(.int .u64 ((igetM img l gw gi gb n_).1.k)), (.int .u64 ((igetM img l gw gi gb n_).1.l)), (.int .u64 ((igetM img l gw gi gb n_).1.o)), (.int .u64 ((igetM img l gw gi gb n_).1.s)), (.int .u64 ((igetM img l gw gi gb n_).1.a)), (.int .u64 ((igetM img l gw gi gb n_).1.b)), (.int .u64 ((igetM img l gw gi gb n_).1.c)), (.int .u64 ((igetM img l gw gi gb n_).1.d)), (.int .u64 ((igetM img l gw gi gb n_).1.e)), (.int .u64 ((igetM img l gw gi gb n_).1.m))].toArray 153 (0, 0)), blk b7 (.cells [(.pointer none), (.int .i64 0), (.int .i64 0), (.int .i64 0), (.pointer none)].toArray 97 (0, 0)), blk b4 (.cells [(.int .i64 gw), (.int .i64 gi), (.int .i64 gb)].toArray 31 (0, 0))] := hs16
 refine zE 1 (hK8 _ _ ?_)
 refine W.seq fun K18 hK18 => ?_
 refine W.sr fun K19 hK19 => ?_
 refine zR 3 ?_
 rcases Bool.eq_false_or_eq_true (decide ((igetM img l gw gi gb n_).2 = 0)) with h20 | h20
 ·
  have h20p := of_decide_eq_true h20
  refine zS 20 h20 ?_
  refine zS 19 h20 ?_
  refine zR 1 ?_
  refine zL ⟨b14, 0, none⟩ (.int .u64 ((igetM img l gw gi gb n_).1.k)) (hs17.cellAt 0 rfl rfl) ?_
  refine zE 2 (hK19 _ _ ?_)
  refine W.cond (!decide ((igetM img l gw gi gb n_).1.k = 2)) (by kernel_rfl) (fun h21 => ?_) (fun h21 => ?_)
  ·
   have h21p : ¬ ((igetM img l gw gi gb n_).1.k = 2) := of_decide_eq_false (bnot_true h21)
   refine W.region ?_
   refine zE 1 (hK18 _ _ ?_)
   refine W.seq fun K22 hK22 => ?_
   refine W.sr fun K23 hK23 => ?_
   refine zE 2 (hK23 _ _ ?_)
   refine W.cond_true true (by kernel_rfl) rfl ?_
   refine W.sr fun K24 hK24 => ?_
   refine zR 2 ?_
   have hs27 := St.f1 hs17
   refine ops_store (off := 0) (cs := [(.pointer none), (.int .i64 0), (.int .i64 0), (.int .i64 0), (.pointer none)]) (vs := [(.pointer none), (.int .i64 0), (.int .i64 0), (.int .i64 0), (.pointer none)]) hs27 (by kernel_rfl) (by simp) rfl (fun w25 hs26 => ?_)
   have hs28 : St B w [] w25 [blk b7 (.cells [(.pointer none), (.int .i64 0), (.int .i64 0), (.int .i64 0), (.pointer none)].toArray 97 (0, 0)), blk b14 (.cells [(.int .u64 ((igetM img l gw gi gb n_).1.k)), (.int .u64 ((igetM img l gw gi gb n_).1.l)), (.int .u64 ((igetM img l gw gi gb n_).1.o)), (.int .u64 ((igetM img l gw gi gb n_).1.s)), (.int .u64 ((igetM img l gw gi gb n_).1.a)), (.int .u64 ((igetM img l gw gi gb n_).1.b)), (.int .u64 ((igetM img l gw gi gb n_).1.c)), (.int .u64 ((igetM img l gw gi gb n_).1.d)), (.int .u64 ((igetM img l gw gi gb n_).1.e)), (.int .u64 ((igetM img l gw gi gb n_).1.m))].toArray 153 (0, 0)), blk b4 (.cells [(.int .i64 gw), (.int .i64 gi), (.int .i64 gb)].toArray 31 (0, 0))] := hs26
   refine zE 1 (hK24 _ _ ?_)
   refine W.ret (ret_seq ?_)
   exfalso; omega
  ·
   have h21p : (igetM img l gw gi gb n_).1.k = 2 := of_decide_eq_true (bnot_false h21)
   refine W.skip ?_
   refine hK18 _ _ ?_
   refine W.seq fun K29 hK29 => ?_
   refine W.sr fun K30 hK30 => ?_
   refine zE 2 (hK30 _ _ ?_)
   refine W.cond (!decide ((igetM img l gw gi gb n_).2 = 0)) (by kernel_rfl) (fun h31 => ?_) (fun h31 => ?_)
   ·
    have h31p : ¬ ((igetM img l gw gi gb n_).2 = 0) := of_decide_eq_false (bnot_true h31)
    refine W.sr fun K32 hK32 => ?_
    refine zR 2 ?_
    have hs35 := St.f1 hs17
    refine ops_store (off := 0) (cs := [(.pointer none), (.int .i64 0), (.int .i64 0), (.int .i64 0), (.pointer none)]) (vs := [(.pointer none), (.int .i64 0), (.int .i64 0), (.int .i64 0), (.pointer none)]) hs35 (by kernel_rfl) (by simp) rfl (fun w33 hs34 => ?_)
    have hs36 : St B w [] w33 [blk b7 (.cells [(.pointer none), (.int .i64 0), (.int .i64 0), (.int .i64 0), (.pointer none)].toArray 97 (0, 0)), blk b14 (.cells [(.int .u64 ((igetM img l gw gi gb n_).1.k)), (.int .u64 ((igetM img l gw gi gb n_).1.l)), (.int .u64 ((igetM img l gw gi gb n_).1.o)), (.int .u64 ((igetM img l gw gi gb n_).1.s)), (.int .u64 ((igetM img l gw gi gb n_).1.a)), (.int .u64 ((igetM img l gw gi gb n_).1.b)), (.int .u64 ((igetM img l gw gi gb n_).1.c)), (.int .u64 ((igetM img l gw gi gb n_).1.d)), (.int .u64 ((igetM img l gw gi gb n_).1.e)), (.int .u64 ((igetM img l gw gi gb n_).1.m))].toArray 153 (0, 0)), blk b4 (.cells [(.int .i64 gw), (.int .i64 gi), (.int .i64 gb)].toArray 31 (0, 0))] := hs34
    refine zE 1 (hK32 _ _ ?_)
    refine W.ret (ret_seq ?_)
    exfalso; omega
   ·
    have h31p : (igetM img l gw gi gb n_).2 = 0 := of_decide_eq_true (bnot_false h31)
    refine W.skip ?_
    refine hK29 _ _ ?_
    refine W.sr fun K37 hK37 => ?_
    refine zR 1 ?_
    refine ops_R (runs_loadAgg (ad := ⟨b4, 0, none⟩) (cs := [(.int .i64 gw), (.int .i64 gi), (.int .i64 gb)]) (by kernel_rfl) (cells_sub (hs17.heapAt 2 rfl) rfl)) ?_
    refine zR 1 ?_
    rcases Bool.eq_false_or_eq_true (decide ((igetM img l gw gi gb n_).2 = 0)) with h38 | h38
    ·
     have h38p := of_decide_eq_true h38
     refine ops_call0 hs17 (by kernel_rfl) (bof_ok (gw := gw) (gi := gi) (gb := gb) (n_ := n_) (hv := (viewAt_old hs17 hv)) (hP := h38p) B _) ?_
     rintro _ _ w40 ⟨b39, rfl, rfl⟩ hs41
     have hs42 := St.ap1 hs41
     refine zE 5 (hK37 _ _ ?_)
     refine W.sr fun K43 hK43 => ?_
     refine zR 1 ?_
     refine ops_R (runs_loadAgg (ad := ⟨b4, 0, none⟩) (cs := [(.int .i64 gw), (.int .i64 gi), (.int .i64 gb)]) (by kernel_rfl) (cells_sub (hs42.heapAt 3 rfl) rfl)) ?_
     refine zR 3 ?_
     have hs46 := St.f2 hs42
     refine ops_store (off := 0) (cs := [(.pointer none), (.int .i64 0), (.int .i64 0), (.int .i64 0), (.pointer none)]) (vs := [(.pointer (some ⟨vb, 0, none⟩)), (.int .i64 gw), (.int .i64 gi), (.int .i64 gb), (.pointer (some ⟨b39, 0, none⟩))]) hs46 (by kernel_rfl) (by simp) rfl (fun w44 hs45 => ?_)
     have hs47 : St B w [] w44 [blk b7 (.cells [(.pointer (some ⟨vb, 0, none⟩)), (.int .i64 gw), (.int .i64 gi), (.int .i64 gb), (.pointer (some ⟨b39, 0, none⟩))].toArray 97 (0, 0)), blk b39 (.cells [(.pointer (some ⟨vb, 0, none⟩)), (.int .i64 gw), (.int .i64 gi), (.int .i64 gb), (.int .i64 n_)].toArray 164 (0, 0)), blk b14 (.cells [(.int .u64 ((igetM img l gw gi gb n_).1.k)), (.int .u64 ((igetM img l gw gi gb n_).1.l)), (.int .u64 ((igetM img l gw gi gb n_).1.o)), (.int .u64 ((igetM img l gw gi gb n_).1.s)), (.int .u64 ((igetM img l gw gi gb n_).1.a)), (.int .u64 ((igetM img l gw gi gb n_).1.b)), (.int .u64 ((igetM img l gw gi gb n_).1.c)), (.int .u64 ((igetM img l gw gi gb n_).1.d)), (.int .u64 ((igetM img l gw gi gb n_).1.e)), (.int .u64 ((igetM img l gw gi gb n_).1.m))].toArray 153 (0, 0)), blk b4 (.cells [(.int .i64 gw), (.int .i64 gi), (.int .i64 gb)].toArray 31 (0, 0))] := hs45
     refine zE 1 (hK43 _ _ ?_)
     refine W.ret ?_
     have hs48 := St.f1 hs47
     have hs49 := St.tk1 hs48
     refine ret_of (.tuple #[(.agg #[(.pointer (some ⟨vb, 0, none⟩)), (.int .i64 gw), (.int .i64 gi), (.int .i64 gb), (.pointer (some ⟨b39, 0, none⟩))]), (.int .i64 0)]) (resS_of (by kernel_rfl) (resD_two rfl (.agg (ad := ⟨b7, 0, none⟩) (cs := [(.pointer (some ⟨vb, 0, none⟩)), (.int .i64 gw), (.int .i64 gi), (.int .i64 gb), (.pointer (some ⟨b39, 0, none⟩))]) (by kernel_rfl) (by kernel_rfl) (cells_sub (hs47.heapAt 0 rfl) rfl)) (.tmp (by kernel_rfl)))) ⟨_, ⟨b39, rfl, rfl⟩, hs49⟩
    ·
     have h38p := of_decide_eq_false h38
     refine zC00 hs17 (bof_err (gw := gw) (gi := gi) (gb := gb) (n_ := n_) (hv := (viewAt_old hs17 hv)) (hN := h38p) B _) fun w50 hs52 => ?_
     refine zE 5 (hK37 _ _ ?_)
     refine W.sr fun K53 hK53 => ?_
     refine zR 1 ?_
     refine ops_R (runs_loadAgg (ad := ⟨b4, 0, none⟩) (cs := [(.int .i64 gw), (.int .i64 gi), (.int .i64 gb)]) (by kernel_rfl) (cells_sub (hs52.heapAt 2 rfl) rfl)) ?_
     refine zR 3 ?_
     have hs56 := St.f1 hs52
     refine ops_store (off := 0) (cs := [(.pointer none), (.int .i64 0), (.int .i64 0), (.int .i64 0), (.pointer none)]) (vs := [(.pointer (some ⟨vb, 0, none⟩)), (.int .i64 gw), (.int .i64 gi), (.int .i64 gb), (.pointer none)]) hs56 (by kernel_rfl) (by simp) rfl (fun w54 hs55 => ?_)
     have hs57 : St B w [] w54 [blk b7 (.cells [(.pointer (some ⟨vb, 0, none⟩)), (.int .i64 gw), (.int .i64 gi), (.int .i64 gb), (.pointer none)].toArray 97 (0, 0)), blk b14 (.cells [(.int .u64 ((igetM img l gw gi gb n_).1.k)), (.int .u64 ((igetM img l gw gi gb n_).1.l)), (.int .u64 ((igetM img l gw gi gb n_).1.o)), (.int .u64 ((igetM img l gw gi gb n_).1.s)), (.int .u64 ((igetM img l gw gi gb n_).1.a)), (.int .u64 ((igetM img l gw gi gb n_).1.b)), (.int .u64 ((igetM img l gw gi gb n_).1.c)), (.int .u64 ((igetM img l gw gi gb n_).1.d)), (.int .u64 ((igetM img l gw gi gb n_).1.e)), (.int .u64 ((igetM img l gw gi gb n_).1.m))].toArray 153 (0, 0)), blk b4 (.cells [(.int .i64 gw), (.int .i64 gi), (.int .i64 gb)].toArray 31 (0, 0))] := hs55
     refine zE 1 (hK53 _ _ ?_)
     refine W.ret ?_
     exfalso; omega
 ·
  have h20p := of_decide_eq_false h20
  refine zS 20 h20 ?_
  refine zS 19 h20 ?_
  refine zE 4 (hK19 _ _ ?_)
  refine W.cond_false false (by kernel_rfl) rfl ?_
  refine W.skip ?_
  refine hK18 _ _ ?_
  refine W.seq fun K58 hK58 => ?_
  refine W.sr fun K59 hK59 => ?_
  refine zE 2 (hK59 _ _ ?_)
  refine W.cond (!decide ((igetM img l gw gi gb n_).2 = 0)) (by kernel_rfl) (fun h60 => ?_) (fun h60 => ?_)
  ·
   have h60p : ¬ ((igetM img l gw gi gb n_).2 = 0) := of_decide_eq_false (bnot_true h60)
   refine W.sr fun K61 hK61 => ?_
   refine zR 2 ?_
   have hs64 := St.f1 hs17
   refine ops_store (off := 0) (cs := [(.pointer none), (.int .i64 0), (.int .i64 0), (.int .i64 0), (.pointer none)]) (vs := [(.pointer none), (.int .i64 0), (.int .i64 0), (.int .i64 0), (.pointer none)]) hs64 (by kernel_rfl) (by simp) rfl (fun w62 hs63 => ?_)
   have hs65 : St B w [] w62 [blk b7 (.cells [(.pointer none), (.int .i64 0), (.int .i64 0), (.int .i64 0), (.pointer none)].toArray 97 (0, 0)), blk b14 (.cells [(.int .u64 ((igetM img l gw gi gb n_).1.k)), (.int .u64 ((igetM img l gw gi gb n_).1.l)), (.int .u64 ((igetM img l gw gi gb n_).1.o)), (.int .u64 ((igetM img l gw gi gb n_).1.s)), (.int .u64 ((igetM img l gw gi gb n_).1.a)), (.int .u64 ((igetM img l gw gi gb n_).1.b)), (.int .u64 ((igetM img l gw gi gb n_).1.c)), (.int .u64 ((igetM img l gw gi gb n_).1.d)), (.int .u64 ((igetM img l gw gi gb n_).1.e)), (.int .u64 ((igetM img l gw gi gb n_).1.m))].toArray 153 (0, 0)), blk b4 (.cells [(.int .i64 gw), (.int .i64 gi), (.int .i64 gb)].toArray 31 (0, 0))] := hs63
   refine zE 1 (hK61 _ _ ?_)
   refine W.ret (ret_seq ?_)
   exfalso; omega
  ·
   have h60p : (igetM img l gw gi gb n_).2 = 0 := of_decide_eq_true (bnot_false h60)
   refine W.skip ?_
   refine hK58 _ _ ?_
   refine W.sr fun K66 hK66 => ?_
   refine zR 1 ?_
   refine ops_R (runs_loadAgg (ad := ⟨b4, 0, none⟩) (cs := [(.int .i64 gw), (.int .i64 gi), (.int .i64 gb)]) (by kernel_rfl) (cells_sub (hs17.heapAt 2 rfl) rfl)) ?_
   refine zR 1 ?_
   rcases Bool.eq_false_or_eq_true (decide ((igetM img l gw gi gb n_).2 = 0)) with h67 | h67
   ·
    have h67p := of_decide_eq_true h67
    refine ops_call0 hs17 (by kernel_rfl) (bof_ok (gw := gw) (gi := gi) (gb := gb) (n_ := n_) (hv := (viewAt_old hs17 hv)) (hP := h67p) B _) ?_
    rintro _ _ w69 ⟨b68, rfl, rfl⟩ hs70
    have hs71 := St.ap1 hs70
    refine zE 5 (hK66 _ _ ?_)
    refine W.sr fun K72 hK72 => ?_
    refine zR 1 ?_
    refine ops_R (runs_loadAgg (ad := ⟨b4, 0, none⟩) (cs := [(.int .i64 gw), (.int .i64 gi), (.int .i64 gb)]) (by kernel_rfl) (cells_sub (hs71.heapAt 3 rfl) rfl)) ?_
    refine zR 3 ?_
    have hs75 := St.f2 hs71
    refine ops_store (off := 0) (cs := [(.pointer none), (.int .i64 0), (.int .i64 0), (.int .i64 0), (.pointer none)]) (vs := [(.pointer (some ⟨vb, 0, none⟩)), (.int .i64 gw), (.int .i64 gi), (.int .i64 gb), (.pointer (some ⟨b68, 0, none⟩))]) hs75 (by kernel_rfl) (by simp) rfl (fun w73 hs74 => ?_)
    have hs76 : St B w [] w73 [blk b7 (.cells [(.pointer (some ⟨vb, 0, none⟩)), (.int .i64 gw), (.int .i64 gi), (.int .i64 gb), (.pointer (some ⟨b68, 0, none⟩))].toArray 97 (0, 0)), blk b68 (.cells [(.pointer (some ⟨vb, 0, none⟩)), (.int .i64 gw), (.int .i64 gi), (.int .i64 gb), (.int .i64 n_)].toArray 164 (0, 0)), blk b14 (.cells [(.int .u64 ((igetM img l gw gi gb n_).1.k)), (.int .u64 ((igetM img l gw gi gb n_).1.l)), (.int .u64 ((igetM img l gw gi gb n_).1.o)), (.int .u64 ((igetM img l gw gi gb n_).1.s)), (.int .u64 ((igetM img l gw gi gb n_).1.a)), (.int .u64 ((igetM img l gw gi gb n_).1.b)), (.int .u64 ((igetM img l gw gi gb n_).1.c)), (.int .u64 ((igetM img l gw gi gb n_).1.d)), (.int .u64 ((igetM img l gw gi gb n_).1.e)), (.int .u64 ((igetM img l gw gi gb n_).1.m))].toArray 153 (0, 0)), blk b4 (.cells [(.int .i64 gw), (.int .i64 gi), (.int .i64 gb)].toArray 31 (0, 0))] := hs74
    refine zE 1 (hK72 _ _ ?_)
    refine W.ret ?_
    have hs77 := St.f1 hs76
    have hs78 := St.tk1 hs77
    refine ret_of (.tuple #[(.agg #[(.pointer (some ⟨vb, 0, none⟩)), (.int .i64 gw), (.int .i64 gi), (.int .i64 gb), (.pointer (some ⟨b68, 0, none⟩))]), (.int .i64 0)]) (resS_of (by kernel_rfl) (resD_two rfl (.agg (ad := ⟨b7, 0, none⟩) (cs := [(.pointer (some ⟨vb, 0, none⟩)), (.int .i64 gw), (.int .i64 gi), (.int .i64 gb), (.pointer (some ⟨b68, 0, none⟩))]) (by kernel_rfl) (by kernel_rfl) (cells_sub (hs76.heapAt 0 rfl) rfl)) (.tmp (by kernel_rfl)))) ⟨_, ⟨b68, rfl, rfl⟩, hs78⟩
   ·
    have h67p := of_decide_eq_false h67
    refine zC00 hs17 (bof_err (gw := gw) (gi := gi) (gb := gb) (n_ := n_) (hv := (viewAt_old hs17 hv)) (hN := h67p) B _) fun w79 hs81 => ?_
    refine zE 5 (hK66 _ _ ?_)
    refine W.sr fun K82 hK82 => ?_
    refine zR 1 ?_
    refine ops_R (runs_loadAgg (ad := ⟨b4, 0, none⟩) (cs := [(.int .i64 gw), (.int .i64 gi), (.int .i64 gb)]) (by kernel_rfl) (cells_sub (hs81.heapAt 2 rfl) rfl)) ?_
    refine zR 3 ?_
    have hs85 := St.f1 hs81
    refine ops_store (off := 0) (cs := [(.pointer none), (.int .i64 0), (.int .i64 0), (.int .i64 0), (.pointer none)]) (vs := [(.pointer (some ⟨vb, 0, none⟩)), (.int .i64 gw), (.int .i64 gi), (.int .i64 gb), (.pointer none)]) hs85 (by kernel_rfl) (by simp) rfl (fun w83 hs84 => ?_)
    have hs86 : St B w [] w83 [blk b7 (.cells [(.pointer (some ⟨vb, 0, none⟩)), (.int .i64 gw), (.int .i64 gi), (.int .i64 gb), (.pointer none)].toArray 97 (0, 0)), blk b14 (.cells [(.int .u64 ((igetM img l gw gi gb n_).1.k)), (.int .u64 ((igetM img l gw gi gb n_).1.l)), (.int .u64 ((igetM img l gw gi gb n_).1.o)), (.int .u64 ((igetM img l gw gi gb n_).1.s)), (.int .u64 ((igetM img l gw gi gb n_).1.a)), (.int .u64 ((igetM img l gw gi gb n_).1.b)), (.int .u64 ((igetM img l gw gi gb n_).1.c)), (.int .u64 ((igetM img l gw gi gb n_).1.d)), (.int .u64 ((igetM img l gw gi gb n_).1.e)), (.int .u64 ((igetM img l gw gi gb n_).1.m))].toArray 153 (0, 0)), blk b4 (.cells [(.int .i64 gw), (.int .i64 gi), (.int .i64 gb)].toArray 31 (0, 0))] := hs84
    refine zE 1 (hK82 _ _ ?_)
    refine W.ret ?_
    exfalso; omega

theorem eopen_dir {vb : Nat} {img : List Int} {l : List (Int × Int)} {gw gi gb n_ : Int} (B : Nat) (w : World) (hv : ViewAt (ptr vb) img l w) (hP : (igetM img l gw gi gb n_).2 = 0) (hK : ¬ ((igetM img l gw gi gb n_).1.k = 2)) : Spec Tryz.prog 45 #[(.pointer (some ⟨vb, 0, none⟩)), (.agg #[(.int .i64 gw), (.int .i64 gi), (.int .i64 gb)]), (.int .i64 n_)] B w [] (fun v H' => v = (.tuple #[(.agg #[(.pointer none), (.int .i64 0), (.int .i64 0), (.int .i64 0), (.pointer none)]), (.int .i64 10)]) ∧ H' = []) := by
 refine spec_Q Tryz.func45 rfl fun hs => ?_
 refine W.sr fun K1 hK1 => ?_
 refine zN [(.int .i64 gw), (.int .i64 gi), (.int .i64 gb)] 31 hs fun b4 w2 hs3 => ?_
 refine zN [(.pointer none), (.int .i64 0), (.int .i64 0), (.int .i64 0), (.pointer none)] 97 hs3 fun b7 w5 hs6 => ?_
 refine zE 1 (hK1 _ _ ?_)
 refine W.sr fun K8 hK8 => ?_
 refine zR 1 ?_
 refine ops_R (runs_loadAgg (ad := ⟨b4, 0, none⟩) (cs := [(.int .i64 gw), (.int .i64 gi), (.int .i64 gb)]) (by kernel_rfl) (cells_sub (hs6.heapAt 1 rfl) rfl)) ?_
 refine zR 1 ?_
 refine zC00 hs6 (ig_spec (gw := gw) (gi := gi) (gb := gb) (n_ := n_) (hv := (viewAt_old hs6 hv)) B _) fun w9 hs11 => ?_
 refine zR 3 ?_
 refine zN [(.int .u64 0), (.int .u64 0), (.int .u64 0), (.int .u64 0), (.int .u64 0), (.int .u64 0), (.int .u64 0), (.int .u64 0), (.int .u64 0), (.int .u64 0)] 153 hs11 fun b14 w12 hs13 => ?_
 refine ops_store (off := 0) (cs := [(.int .u64 0), (.int .u64 0), (.int .u64 0), (.int .u64 0), (.int .u64 0), (.int .u64 0), (.int .u64 0), (.int .u64 0), (.int .u64 0), (.int .u64 0)]) (vs := [(.int .u64 ((igetM img l gw gi gb n_).1.k)), (.int .u64 ((igetM img l gw gi gb n_).1.l)), (.int .u64 ((igetM img l gw gi gb n_).1.o)), (.int .u64 ((igetM img l gw gi gb n_).1.s)), (.int .u64 ((igetM img l gw gi gb n_).1.a)), (.int .u64 ((igetM img l gw gi gb n_).1.b)), (.int .u64 ((igetM img l gw gi gb n_).1.c)), (.int .u64 ((igetM img l gw gi gb n_).1.d)), (.int .u64 ((igetM img l gw gi gb n_).1.e)), (.int .u64 ((igetM img l gw gi gb n_).1.m))]) hs13 (by kernel_rfl) (by simp) rfl (fun w15 hs16 => ?_)
 have hs17 : St B w [] w15 [blk b14 (.cells [(.int .u64 ((igetM img l gw gi gb n_).1.k)), (.int .u64 ((igetM img l gw gi gb n_).1.l)), (.int .u64 ((igetM img l gw gi gb n_).1.o)), (.int .u64 ((igetM img l gw gi gb n_).1.s)), (.int .u64 ((igetM img l gw gi gb n_).1.a)), (.int .u64 ((igetM img l gw gi gb n_).1.b)), (.int .u64 ((igetM img l gw gi gb n_).1.c)), (.int .u64 ((igetM img l gw gi gb n_).1.d)), (.int .u64 ((igetM img l gw gi gb n_).1.e)), (.int .u64 ((igetM img l gw gi gb n_).1.m))].toArray 153 (0, 0)), blk b7 (.cells [(.pointer none), (.int .i64 0), (.int .i64 0), (.int .i64 0), (.pointer none)].toArray 97 (0, 0)), blk b4 (.cells [(.int .i64 gw), (.int .i64 gi), (.int .i64 gb)].toArray 31 (0, 0))] := hs16
 refine zE 1 (hK8 _ _ ?_)
 refine W.seq fun K18 hK18 => ?_
 refine W.sr fun K19 hK19 => ?_
 refine zR 3 ?_
 rcases Bool.eq_false_or_eq_true (decide ((igetM img l gw gi gb n_).2 = 0)) with h20 | h20
 ·
  have h20p := of_decide_eq_true h20
  refine zS 20 h20 ?_
  refine zS 19 h20 ?_
  refine zR 1 ?_
  refine zL ⟨b14, 0, none⟩ (.int .u64 ((igetM img l gw gi gb n_).1.k)) (hs17.cellAt 0 rfl rfl) ?_
  refine zE 2 (hK19 _ _ ?_)
  refine W.cond (!decide ((igetM img l gw gi gb n_).1.k = 2)) (by kernel_rfl) (fun h21 => ?_) (fun h21 => ?_)
  ·
   have h21p : ¬ ((igetM img l gw gi gb n_).1.k = 2) := of_decide_eq_false (bnot_true h21)
   refine W.region ?_
   refine zE 1 (hK18 _ _ ?_)
   refine W.seq fun K22 hK22 => ?_
   refine W.sr fun K23 hK23 => ?_
   refine zE 2 (hK23 _ _ ?_)
   refine W.cond_true true (by kernel_rfl) rfl ?_
   refine W.sr fun K24 hK24 => ?_
   refine zR 2 ?_
   have hs27 := St.f1 hs17
   refine ops_store (off := 0) (cs := [(.pointer none), (.int .i64 0), (.int .i64 0), (.int .i64 0), (.pointer none)]) (vs := [(.pointer none), (.int .i64 0), (.int .i64 0), (.int .i64 0), (.pointer none)]) hs27 (by kernel_rfl) (by simp) rfl (fun w25 hs26 => ?_)
   have hs28 : St B w [] w25 [blk b7 (.cells [(.pointer none), (.int .i64 0), (.int .i64 0), (.int .i64 0), (.pointer none)].toArray 97 (0, 0)), blk b14 (.cells [(.int .u64 ((igetM img l gw gi gb n_).1.k)), (.int .u64 ((igetM img l gw gi gb n_).1.l)), (.int .u64 ((igetM img l gw gi gb n_).1.o)), (.int .u64 ((igetM img l gw gi gb n_).1.s)), (.int .u64 ((igetM img l gw gi gb n_).1.a)), (.int .u64 ((igetM img l gw gi gb n_).1.b)), (.int .u64 ((igetM img l gw gi gb n_).1.c)), (.int .u64 ((igetM img l gw gi gb n_).1.d)), (.int .u64 ((igetM img l gw gi gb n_).1.e)), (.int .u64 ((igetM img l gw gi gb n_).1.m))].toArray 153 (0, 0)), blk b4 (.cells [(.int .i64 gw), (.int .i64 gi), (.int .i64 gb)].toArray 31 (0, 0))] := hs26
   refine zE 1 (hK24 _ _ ?_)
   refine W.ret (ret_seq ?_)
   have hs29 := St.tk0 hs28
   refine ret_of (.tuple #[(.agg #[(.pointer none), (.int .i64 0), (.int .i64 0), (.int .i64 0), (.pointer none)]), (.int .i64 10)]) (resS_of (by kernel_rfl) (resD_two rfl (.agg (ad := ⟨b7, 0, none⟩) (cs := [(.pointer none), (.int .i64 0), (.int .i64 0), (.int .i64 0), (.pointer none)]) (by kernel_rfl) (by kernel_rfl) (cells_sub (hs28.heapAt 0 rfl) rfl)) (.tmp (by kernel_rfl)))) ⟨_, ⟨rfl, rfl⟩, hs29⟩
  ·
   have h21p : (igetM img l gw gi gb n_).1.k = 2 := of_decide_eq_true (bnot_false h21)
   refine W.skip ?_
   refine hK18 _ _ ?_
   refine W.seq fun K30 hK30 => ?_
   refine W.sr fun K31 hK31 => ?_
   refine zE 2 (hK31 _ _ ?_)
   refine W.cond (!decide ((igetM img l gw gi gb n_).2 = 0)) (by kernel_rfl) (fun h32 => ?_) (fun h32 => ?_)
   ·
    have h32p : ¬ ((igetM img l gw gi gb n_).2 = 0) := of_decide_eq_false (bnot_true h32)
    refine W.sr fun K33 hK33 => ?_
    refine zR 2 ?_
    have hs36 := St.f1 hs17
    refine ops_store (off := 0) (cs := [(.pointer none), (.int .i64 0), (.int .i64 0), (.int .i64 0), (.pointer none)]) (vs := [(.pointer none), (.int .i64 0), (.int .i64 0), (.int .i64 0), (.pointer none)]) hs36 (by kernel_rfl) (by simp) rfl (fun w34 hs35 => ?_)
    have hs37 : St B w [] w34 [blk b7 (.cells [(.pointer none), (.int .i64 0), (.int .i64 0), (.int .i64 0), (.pointer none)].toArray 97 (0, 0)), blk b14 (.cells [(.int .u64 ((igetM img l gw gi gb n_).1.k)), (.int .u64 ((igetM img l gw gi gb n_).1.l)), (.int .u64 ((igetM img l gw gi gb n_).1.o)), (.int .u64 ((igetM img l gw gi gb n_).1.s)), (.int .u64 ((igetM img l gw gi gb n_).1.a)), (.int .u64 ((igetM img l gw gi gb n_).1.b)), (.int .u64 ((igetM img l gw gi gb n_).1.c)), (.int .u64 ((igetM img l gw gi gb n_).1.d)), (.int .u64 ((igetM img l gw gi gb n_).1.e)), (.int .u64 ((igetM img l gw gi gb n_).1.m))].toArray 153 (0, 0)), blk b4 (.cells [(.int .i64 gw), (.int .i64 gi), (.int .i64 gb)].toArray 31 (0, 0))] := hs35
    refine zE 1 (hK33 _ _ ?_)
    refine W.ret (ret_seq ?_)
    exfalso; omega
   ·
    have h32p : (igetM img l gw gi gb n_).2 = 0 := of_decide_eq_true (bnot_false h32)
    refine W.skip ?_
    refine hK30 _ _ ?_
    refine W.sr fun K38 hK38 => ?_
    refine zR 1 ?_
    refine ops_R (runs_loadAgg (ad := ⟨b4, 0, none⟩) (cs := [(.int .i64 gw), (.int .i64 gi), (.int .i64 gb)]) (by kernel_rfl) (cells_sub (hs17.heapAt 2 rfl) rfl)) ?_
    refine zR 1 ?_
    rcases Bool.eq_false_or_eq_true (decide ((igetM img l gw gi gb n_).2 = 0)) with h39 | h39
    ·
     have h39p := of_decide_eq_true h39
     refine ops_call0 hs17 (by kernel_rfl) (bof_ok (gw := gw) (gi := gi) (gb := gb) (n_ := n_) (hv := (viewAt_old hs17 hv)) (hP := h39p) B _) ?_
     rintro _ _ w41 ⟨b40, rfl, rfl⟩ hs42
     have hs43 := St.ap1 hs42
     refine zE 5 (hK38 _ _ ?_)
     refine W.sr fun K44 hK44 => ?_
     refine zR 1 ?_
     refine ops_R (runs_loadAgg (ad := ⟨b4, 0, none⟩) (cs := [(.int .i64 gw), (.int .i64 gi), (.int .i64 gb)]) (by kernel_rfl) (cells_sub (hs43.heapAt 3 rfl) rfl)) ?_
     refine zR 3 ?_
     have hs47 := St.f2 hs43
     refine ops_store (off := 0) (cs := [(.pointer none), (.int .i64 0), (.int .i64 0), (.int .i64 0), (.pointer none)]) (vs := [(.pointer (some ⟨vb, 0, none⟩)), (.int .i64 gw), (.int .i64 gi), (.int .i64 gb), (.pointer (some ⟨b40, 0, none⟩))]) hs47 (by kernel_rfl) (by simp) rfl (fun w45 hs46 => ?_)
     have hs48 : St B w [] w45 [blk b7 (.cells [(.pointer (some ⟨vb, 0, none⟩)), (.int .i64 gw), (.int .i64 gi), (.int .i64 gb), (.pointer (some ⟨b40, 0, none⟩))].toArray 97 (0, 0)), blk b40 (.cells [(.pointer (some ⟨vb, 0, none⟩)), (.int .i64 gw), (.int .i64 gi), (.int .i64 gb), (.int .i64 n_)].toArray 164 (0, 0)), blk b14 (.cells [(.int .u64 ((igetM img l gw gi gb n_).1.k)), (.int .u64 ((igetM img l gw gi gb n_).1.l)), (.int .u64 ((igetM img l gw gi gb n_).1.o)), (.int .u64 ((igetM img l gw gi gb n_).1.s)), (.int .u64 ((igetM img l gw gi gb n_).1.a)), (.int .u64 ((igetM img l gw gi gb n_).1.b)), (.int .u64 ((igetM img l gw gi gb n_).1.c)), (.int .u64 ((igetM img l gw gi gb n_).1.d)), (.int .u64 ((igetM img l gw gi gb n_).1.e)), (.int .u64 ((igetM img l gw gi gb n_).1.m))].toArray 153 (0, 0)), blk b4 (.cells [(.int .i64 gw), (.int .i64 gi), (.int .i64 gb)].toArray 31 (0, 0))] := hs46
     refine zE 1 (hK44 _ _ ?_)
     refine W.ret ?_
     exfalso; omega
    ·
     have h39p := of_decide_eq_false h39
     refine zC00 hs17 (bof_err (gw := gw) (gi := gi) (gb := gb) (n_ := n_) (hv := (viewAt_old hs17 hv)) (hN := h39p) B _) fun w49 hs51 => ?_
     refine zE 5 (hK38 _ _ ?_)
     refine W.sr fun K52 hK52 => ?_
     refine zR 1 ?_
     refine ops_R (runs_loadAgg (ad := ⟨b4, 0, none⟩) (cs := [(.int .i64 gw), (.int .i64 gi), (.int .i64 gb)]) (by kernel_rfl) (cells_sub (hs51.heapAt 2 rfl) rfl)) ?_
     refine zR 3 ?_
     have hs55 := St.f1 hs51
     refine ops_store (off := 0) (cs := [(.pointer none), (.int .i64 0), (.int .i64 0), (.int .i64 0), (.pointer none)]) (vs := [(.pointer (some ⟨vb, 0, none⟩)), (.int .i64 gw), (.int .i64 gi), (.int .i64 gb), (.pointer none)]) hs55 (by kernel_rfl) (by simp) rfl (fun w53 hs54 => ?_)
     have hs56 : St B w [] w53 [blk b7 (.cells [(.pointer (some ⟨vb, 0, none⟩)), (.int .i64 gw), (.int .i64 gi), (.int .i64 gb), (.pointer none)].toArray 97 (0, 0)), blk b14 (.cells [(.int .u64 ((igetM img l gw gi gb n_).1.k)), (.int .u64 ((igetM img l gw gi gb n_).1.l)), (.int .u64 ((igetM img l gw gi gb n_).1.o)), (.int .u64 ((igetM img l gw gi gb n_).1.s)), (.int .u64 ((igetM img l gw gi gb n_).1.a)), (.int .u64 ((igetM img l gw gi gb n_).1.b)), (.int .u64 ((igetM img l gw gi gb n_).1.c)), (.int .u64 ((igetM img l gw gi gb n_).1.d)), (.int .u64 ((igetM img l gw gi gb n_).1.e)), (.int .u64 ((igetM img l gw gi gb n_).1.m))].toArray 153 (0, 0)), blk b4 (.cells [(.int .i64 gw), (.int .i64 gi), (.int .i64 gb)].toArray 31 (0, 0))] := hs54
     refine zE 1 (hK52 _ _ ?_)
     refine W.ret ?_
     exfalso; omega
 ·
  have h20p := of_decide_eq_false h20
  refine zS 20 h20 ?_
  refine zS 19 h20 ?_
  refine zE 4 (hK19 _ _ ?_)
  refine W.cond_false false (by kernel_rfl) rfl ?_
  refine W.skip ?_
  refine hK18 _ _ ?_
  refine W.seq fun K57 hK57 => ?_
  refine W.sr fun K58 hK58 => ?_
  refine zE 2 (hK58 _ _ ?_)
  refine W.cond (!decide ((igetM img l gw gi gb n_).2 = 0)) (by kernel_rfl) (fun h59 => ?_) (fun h59 => ?_)
  ·
   have h59p : ¬ ((igetM img l gw gi gb n_).2 = 0) := of_decide_eq_false (bnot_true h59)
   refine W.sr fun K60 hK60 => ?_
   refine zR 2 ?_
   have hs63 := St.f1 hs17
   refine ops_store (off := 0) (cs := [(.pointer none), (.int .i64 0), (.int .i64 0), (.int .i64 0), (.pointer none)]) (vs := [(.pointer none), (.int .i64 0), (.int .i64 0), (.int .i64 0), (.pointer none)]) hs63 (by kernel_rfl) (by simp) rfl (fun w61 hs62 => ?_)
   have hs64 : St B w [] w61 [blk b7 (.cells [(.pointer none), (.int .i64 0), (.int .i64 0), (.int .i64 0), (.pointer none)].toArray 97 (0, 0)), blk b14 (.cells [(.int .u64 ((igetM img l gw gi gb n_).1.k)), (.int .u64 ((igetM img l gw gi gb n_).1.l)), (.int .u64 ((igetM img l gw gi gb n_).1.o)), (.int .u64 ((igetM img l gw gi gb n_).1.s)), (.int .u64 ((igetM img l gw gi gb n_).1.a)), (.int .u64 ((igetM img l gw gi gb n_).1.b)), (.int .u64 ((igetM img l gw gi gb n_).1.c)), (.int .u64 ((igetM img l gw gi gb n_).1.d)), (.int .u64 ((igetM img l gw gi gb n_).1.e)), (.int .u64 ((igetM img l gw gi gb n_).1.m))].toArray 153 (0, 0)), blk b4 (.cells [(.int .i64 gw), (.int .i64 gi), (.int .i64 gb)].toArray 31 (0, 0))] := hs62
   refine zE 1 (hK60 _ _ ?_)
   refine W.ret (ret_seq ?_)
   exfalso; omega
  ·
   have h59p : (igetM img l gw gi gb n_).2 = 0 := of_decide_eq_true (bnot_false h59)
   refine W.skip ?_
   refine hK57 _ _ ?_
   refine W.sr fun K65 hK65 => ?_
   refine zR 1 ?_
   refine ops_R (runs_loadAgg (ad := ⟨b4, 0, none⟩) (cs := [(.int .i64 gw), (.int .i64 gi), (.int .i64 gb)]) (by kernel_rfl) (cells_sub (hs17.heapAt 2 rfl) rfl)) ?_
   refine zR 1 ?_
   rcases Bool.eq_false_or_eq_true (decide ((igetM img l gw gi gb n_).2 = 0)) with h66 | h66
   ·
    have h66p := of_decide_eq_true h66
    refine ops_call0 hs17 (by kernel_rfl) (bof_ok (gw := gw) (gi := gi) (gb := gb) (n_ := n_) (hv := (viewAt_old hs17 hv)) (hP := h66p) B _) ?_
    rintro _ _ w68 ⟨b67, rfl, rfl⟩ hs69
    have hs70 := St.ap1 hs69
    refine zE 5 (hK65 _ _ ?_)
    refine W.sr fun K71 hK71 => ?_
    refine zR 1 ?_
    refine ops_R (runs_loadAgg (ad := ⟨b4, 0, none⟩) (cs := [(.int .i64 gw), (.int .i64 gi), (.int .i64 gb)]) (by kernel_rfl) (cells_sub (hs70.heapAt 3 rfl) rfl)) ?_
    refine zR 3 ?_
    have hs74 := St.f2 hs70
    refine ops_store (off := 0) (cs := [(.pointer none), (.int .i64 0), (.int .i64 0), (.int .i64 0), (.pointer none)]) (vs := [(.pointer (some ⟨vb, 0, none⟩)), (.int .i64 gw), (.int .i64 gi), (.int .i64 gb), (.pointer (some ⟨b67, 0, none⟩))]) hs74 (by kernel_rfl) (by simp) rfl (fun w72 hs73 => ?_)
    have hs75 : St B w [] w72 [blk b7 (.cells [(.pointer (some ⟨vb, 0, none⟩)), (.int .i64 gw), (.int .i64 gi), (.int .i64 gb), (.pointer (some ⟨b67, 0, none⟩))].toArray 97 (0, 0)), blk b67 (.cells [(.pointer (some ⟨vb, 0, none⟩)), (.int .i64 gw), (.int .i64 gi), (.int .i64 gb), (.int .i64 n_)].toArray 164 (0, 0)), blk b14 (.cells [(.int .u64 ((igetM img l gw gi gb n_).1.k)), (.int .u64 ((igetM img l gw gi gb n_).1.l)), (.int .u64 ((igetM img l gw gi gb n_).1.o)), (.int .u64 ((igetM img l gw gi gb n_).1.s)), (.int .u64 ((igetM img l gw gi gb n_).1.a)), (.int .u64 ((igetM img l gw gi gb n_).1.b)), (.int .u64 ((igetM img l gw gi gb n_).1.c)), (.int .u64 ((igetM img l gw gi gb n_).1.d)), (.int .u64 ((igetM img l gw gi gb n_).1.e)), (.int .u64 ((igetM img l gw gi gb n_).1.m))].toArray 153 (0, 0)), blk b4 (.cells [(.int .i64 gw), (.int .i64 gi), (.int .i64 gb)].toArray 31 (0, 0))] := hs73
    refine zE 1 (hK71 _ _ ?_)
    refine W.ret ?_
    exfalso; omega
   ·
    have h66p := of_decide_eq_false h66
    refine zC00 hs17 (bof_err (gw := gw) (gi := gi) (gb := gb) (n_ := n_) (hv := (viewAt_old hs17 hv)) (hN := h66p) B _) fun w76 hs78 => ?_
    refine zE 5 (hK65 _ _ ?_)
    refine W.sr fun K79 hK79 => ?_
    refine zR 1 ?_
    refine ops_R (runs_loadAgg (ad := ⟨b4, 0, none⟩) (cs := [(.int .i64 gw), (.int .i64 gi), (.int .i64 gb)]) (by kernel_rfl) (cells_sub (hs78.heapAt 2 rfl) rfl)) ?_
    refine zR 3 ?_
    have hs82 := St.f1 hs78
    refine ops_store (off := 0) (cs := [(.pointer none), (.int .i64 0), (.int .i64 0), (.int .i64 0), (.pointer none)]) (vs := [(.pointer (some ⟨vb, 0, none⟩)), (.int .i64 gw), (.int .i64 gi), (.int .i64 gb), (.pointer none)]) hs82 (by kernel_rfl) (by simp) rfl (fun w80 hs81 => ?_)
    have hs83 : St B w [] w80 [blk b7 (.cells [(.pointer (some ⟨vb, 0, none⟩)), (.int .i64 gw), (.int .i64 gi), (.int .i64 gb), (.pointer none)].toArray 97 (0, 0)), blk b14 (.cells [(.int .u64 ((igetM img l gw gi gb n_).1.k)), (.int .u64 ((igetM img l gw gi gb n_).1.l)), (.int .u64 ((igetM img l gw gi gb n_).1.o)), (.int .u64 ((igetM img l gw gi gb n_).1.s)), (.int .u64 ((igetM img l gw gi gb n_).1.a)), (.int .u64 ((igetM img l gw gi gb n_).1.b)), (.int .u64 ((igetM img l gw gi gb n_).1.c)), (.int .u64 ((igetM img l gw gi gb n_).1.d)), (.int .u64 ((igetM img l gw gi gb n_).1.e)), (.int .u64 ((igetM img l gw gi gb n_).1.m))].toArray 153 (0, 0)), blk b4 (.cells [(.int .i64 gw), (.int .i64 gi), (.int .i64 gb)].toArray 31 (0, 0))] := hs81
    refine zE 1 (hK79 _ _ ?_)
    refine W.ret ?_
    exfalso; omega

theorem eopen_err {vb : Nat} {img : List Int} {l : List (Int × Int)} {gw gi gb n_ : Int} (B : Nat) (w : World) (hv : ViewAt (ptr vb) img l w) (hN : ¬ ((igetM img l gw gi gb n_).2 = 0)) : Spec Tryz.prog 45 #[(.pointer (some ⟨vb, 0, none⟩)), (.agg #[(.int .i64 gw), (.int .i64 gi), (.int .i64 gb)]), (.int .i64 n_)] B w [] (fun v H' => v = (.tuple #[(.agg #[(.pointer none), (.int .i64 0), (.int .i64 0), (.int .i64 0), (.pointer none)]), (.int .i64 ((igetM img l gw gi gb n_).2))]) ∧ H' = []) := by
 refine spec_Q Tryz.func45 rfl fun hs => ?_
 refine W.sr fun K1 hK1 => ?_
 refine zN [(.int .i64 gw), (.int .i64 gi), (.int .i64 gb)] 31 hs fun b4 w2 hs3 => ?_
 refine zN [(.pointer none), (.int .i64 0), (.int .i64 0), (.int .i64 0), (.pointer none)] 97 hs3 fun b7 w5 hs6 => ?_
 refine zE 1 (hK1 _ _ ?_)
 refine W.sr fun K8 hK8 => ?_
 refine zR 1 ?_
 refine ops_R (runs_loadAgg (ad := ⟨b4, 0, none⟩) (cs := [(.int .i64 gw), (.int .i64 gi), (.int .i64 gb)]) (by kernel_rfl) (cells_sub (hs6.heapAt 1 rfl) rfl)) ?_
 refine zR 1 ?_
 refine zC00 hs6 (ig_spec (gw := gw) (gi := gi) (gb := gb) (n_ := n_) (hv := (viewAt_old hs6 hv)) B _) fun w9 hs11 => ?_
 refine zR 3 ?_
 refine zN [(.int .u64 0), (.int .u64 0), (.int .u64 0), (.int .u64 0), (.int .u64 0), (.int .u64 0), (.int .u64 0), (.int .u64 0), (.int .u64 0), (.int .u64 0)] 153 hs11 fun b14 w12 hs13 => ?_
 refine ops_store (off := 0) (cs := [(.int .u64 0), (.int .u64 0), (.int .u64 0), (.int .u64 0), (.int .u64 0), (.int .u64 0), (.int .u64 0), (.int .u64 0), (.int .u64 0), (.int .u64 0)]) (vs := [(.int .u64 ((igetM img l gw gi gb n_).1.k)), (.int .u64 ((igetM img l gw gi gb n_).1.l)), (.int .u64 ((igetM img l gw gi gb n_).1.o)), (.int .u64 ((igetM img l gw gi gb n_).1.s)), (.int .u64 ((igetM img l gw gi gb n_).1.a)), (.int .u64 ((igetM img l gw gi gb n_).1.b)), (.int .u64 ((igetM img l gw gi gb n_).1.c)), (.int .u64 ((igetM img l gw gi gb n_).1.d)), (.int .u64 ((igetM img l gw gi gb n_).1.e)), (.int .u64 ((igetM img l gw gi gb n_).1.m))]) hs13 (by kernel_rfl) (by simp) rfl (fun w15 hs16 => ?_)
 have hs17 : St B w [] w15 [blk b14 (.cells [(.int .u64 ((igetM img l gw gi gb n_).1.k)), (.int .u64 ((igetM img l gw gi gb n_).1.l)), (.int .u64 ((igetM img l gw gi gb n_).1.o)), (.int .u64 ((igetM img l gw gi gb n_).1.s)), (.int .u64 ((igetM img l gw gi gb n_).1.a)), (.int .u64 ((igetM img l gw gi gb n_).1.b)), (.int .u64 ((igetM img l gw gi gb n_).1.c)), (.int .u64 ((igetM img l gw gi gb n_).1.d)), (.int .u64 ((igetM img l gw gi gb n_).1.e)), (.int .u64 ((igetM img l gw gi gb n_).1.m))].toArray 153 (0, 0)), blk b7 (.cells [(.pointer none), (.int .i64 0), (.int .i64 0), (.int .i64 0), (.pointer none)].toArray 97 (0, 0)), blk b4 (.cells [(.int .i64 gw), (.int .i64 gi), (.int .i64 gb)].toArray 31 (0, 0))] := hs16
 refine zE 1 (hK8 _ _ ?_)
 refine W.seq fun K18 hK18 => ?_
 refine W.sr fun K19 hK19 => ?_
 refine zR 3 ?_
 rcases Bool.eq_false_or_eq_true (decide ((igetM img l gw gi gb n_).2 = 0)) with h20 | h20
 ·
  have h20p := of_decide_eq_true h20
  refine zS 20 h20 ?_
  refine zS 19 h20 ?_
  refine zR 1 ?_
  refine zL ⟨b14, 0, none⟩ (.int .u64 ((igetM img l gw gi gb n_).1.k)) (hs17.cellAt 0 rfl rfl) ?_
  refine zE 2 (hK19 _ _ ?_)
  refine W.cond (!decide ((igetM img l gw gi gb n_).1.k = 2)) (by kernel_rfl) (fun h21 => ?_) (fun h21 => ?_)
  ·
   have h21p : ¬ ((igetM img l gw gi gb n_).1.k = 2) := of_decide_eq_false (bnot_true h21)
   refine W.region ?_
   refine zE 1 (hK18 _ _ ?_)
   refine W.seq fun K22 hK22 => ?_
   refine W.sr fun K23 hK23 => ?_
   refine zE 2 (hK23 _ _ ?_)
   refine W.cond_true true (by kernel_rfl) rfl ?_
   refine W.sr fun K24 hK24 => ?_
   refine zR 2 ?_
   have hs27 := St.f1 hs17
   refine ops_store (off := 0) (cs := [(.pointer none), (.int .i64 0), (.int .i64 0), (.int .i64 0), (.pointer none)]) (vs := [(.pointer none), (.int .i64 0), (.int .i64 0), (.int .i64 0), (.pointer none)]) hs27 (by kernel_rfl) (by simp) rfl (fun w25 hs26 => ?_)
   have hs28 : St B w [] w25 [blk b7 (.cells [(.pointer none), (.int .i64 0), (.int .i64 0), (.int .i64 0), (.pointer none)].toArray 97 (0, 0)), blk b14 (.cells [(.int .u64 ((igetM img l gw gi gb n_).1.k)), (.int .u64 ((igetM img l gw gi gb n_).1.l)), (.int .u64 ((igetM img l gw gi gb n_).1.o)), (.int .u64 ((igetM img l gw gi gb n_).1.s)), (.int .u64 ((igetM img l gw gi gb n_).1.a)), (.int .u64 ((igetM img l gw gi gb n_).1.b)), (.int .u64 ((igetM img l gw gi gb n_).1.c)), (.int .u64 ((igetM img l gw gi gb n_).1.d)), (.int .u64 ((igetM img l gw gi gb n_).1.e)), (.int .u64 ((igetM img l gw gi gb n_).1.m))].toArray 153 (0, 0)), blk b4 (.cells [(.int .i64 gw), (.int .i64 gi), (.int .i64 gb)].toArray 31 (0, 0))] := hs26
   refine zE 1 (hK24 _ _ ?_)
   refine W.ret (ret_seq ?_)
   exfalso; omega
  ·
   have h21p : (igetM img l gw gi gb n_).1.k = 2 := of_decide_eq_true (bnot_false h21)
   refine W.skip ?_
   refine hK18 _ _ ?_
   refine W.seq fun K29 hK29 => ?_
   refine W.sr fun K30 hK30 => ?_
   refine zE 2 (hK30 _ _ ?_)
   refine W.cond (!decide ((igetM img l gw gi gb n_).2 = 0)) (by kernel_rfl) (fun h31 => ?_) (fun h31 => ?_)
   ·
    have h31p : ¬ ((igetM img l gw gi gb n_).2 = 0) := of_decide_eq_false (bnot_true h31)
    refine W.sr fun K32 hK32 => ?_
    refine zR 2 ?_
    have hs35 := St.f1 hs17
    refine ops_store (off := 0) (cs := [(.pointer none), (.int .i64 0), (.int .i64 0), (.int .i64 0), (.pointer none)]) (vs := [(.pointer none), (.int .i64 0), (.int .i64 0), (.int .i64 0), (.pointer none)]) hs35 (by kernel_rfl) (by simp) rfl (fun w33 hs34 => ?_)
    have hs36 : St B w [] w33 [blk b7 (.cells [(.pointer none), (.int .i64 0), (.int .i64 0), (.int .i64 0), (.pointer none)].toArray 97 (0, 0)), blk b14 (.cells [(.int .u64 ((igetM img l gw gi gb n_).1.k)), (.int .u64 ((igetM img l gw gi gb n_).1.l)), (.int .u64 ((igetM img l gw gi gb n_).1.o)), (.int .u64 ((igetM img l gw gi gb n_).1.s)), (.int .u64 ((igetM img l gw gi gb n_).1.a)), (.int .u64 ((igetM img l gw gi gb n_).1.b)), (.int .u64 ((igetM img l gw gi gb n_).1.c)), (.int .u64 ((igetM img l gw gi gb n_).1.d)), (.int .u64 ((igetM img l gw gi gb n_).1.e)), (.int .u64 ((igetM img l gw gi gb n_).1.m))].toArray 153 (0, 0)), blk b4 (.cells [(.int .i64 gw), (.int .i64 gi), (.int .i64 gb)].toArray 31 (0, 0))] := hs34
    refine zE 1 (hK32 _ _ ?_)
    refine W.ret (ret_seq ?_)
    have hs37 := St.tk0 hs36
    refine ret_of (.tuple #[(.agg #[(.pointer none), (.int .i64 0), (.int .i64 0), (.int .i64 0), (.pointer none)]), (.int .i64 ((igetM img l gw gi gb n_).2))]) (resS_of (by kernel_rfl) (resD_two rfl (.agg (ad := ⟨b7, 0, none⟩) (cs := [(.pointer none), (.int .i64 0), (.int .i64 0), (.int .i64 0), (.pointer none)]) (by kernel_rfl) (by kernel_rfl) (cells_sub (hs36.heapAt 0 rfl) rfl)) (.tmp (by kernel_rfl)))) ⟨_, ⟨rfl, rfl⟩, hs37⟩
   ·
    have h31p : (igetM img l gw gi gb n_).2 = 0 := of_decide_eq_true (bnot_false h31)
    refine W.skip ?_
    refine hK29 _ _ ?_
    refine W.sr fun K38 hK38 => ?_
    refine zR 1 ?_
    refine ops_R (runs_loadAgg (ad := ⟨b4, 0, none⟩) (cs := [(.int .i64 gw), (.int .i64 gi), (.int .i64 gb)]) (by kernel_rfl) (cells_sub (hs17.heapAt 2 rfl) rfl)) ?_
    refine zR 1 ?_
    rcases Bool.eq_false_or_eq_true (decide ((igetM img l gw gi gb n_).2 = 0)) with h39 | h39
    ·
     have h39p := of_decide_eq_true h39
     refine ops_call0 hs17 (by kernel_rfl) (bof_ok (gw := gw) (gi := gi) (gb := gb) (n_ := n_) (hv := (viewAt_old hs17 hv)) (hP := h39p) B _) ?_
     rintro _ _ w41 ⟨b40, rfl, rfl⟩ hs42
     have hs43 := St.ap1 hs42
     refine zE 5 (hK38 _ _ ?_)
     refine W.sr fun K44 hK44 => ?_
     refine zR 1 ?_
     refine ops_R (runs_loadAgg (ad := ⟨b4, 0, none⟩) (cs := [(.int .i64 gw), (.int .i64 gi), (.int .i64 gb)]) (by kernel_rfl) (cells_sub (hs43.heapAt 3 rfl) rfl)) ?_
     refine zR 3 ?_
     have hs47 := St.f2 hs43
     refine ops_store (off := 0) (cs := [(.pointer none), (.int .i64 0), (.int .i64 0), (.int .i64 0), (.pointer none)]) (vs := [(.pointer (some ⟨vb, 0, none⟩)), (.int .i64 gw), (.int .i64 gi), (.int .i64 gb), (.pointer (some ⟨b40, 0, none⟩))]) hs47 (by kernel_rfl) (by simp) rfl (fun w45 hs46 => ?_)
     have hs48 : St B w [] w45 [blk b7 (.cells [(.pointer (some ⟨vb, 0, none⟩)), (.int .i64 gw), (.int .i64 gi), (.int .i64 gb), (.pointer (some ⟨b40, 0, none⟩))].toArray 97 (0, 0)), blk b40 (.cells [(.pointer (some ⟨vb, 0, none⟩)), (.int .i64 gw), (.int .i64 gi), (.int .i64 gb), (.int .i64 n_)].toArray 164 (0, 0)), blk b14 (.cells [(.int .u64 ((igetM img l gw gi gb n_).1.k)), (.int .u64 ((igetM img l gw gi gb n_).1.l)), (.int .u64 ((igetM img l gw gi gb n_).1.o)), (.int .u64 ((igetM img l gw gi gb n_).1.s)), (.int .u64 ((igetM img l gw gi gb n_).1.a)), (.int .u64 ((igetM img l gw gi gb n_).1.b)), (.int .u64 ((igetM img l gw gi gb n_).1.c)), (.int .u64 ((igetM img l gw gi gb n_).1.d)), (.int .u64 ((igetM img l gw gi gb n_).1.e)), (.int .u64 ((igetM img l gw gi gb n_).1.m))].toArray 153 (0, 0)), blk b4 (.cells [(.int .i64 gw), (.int .i64 gi), (.int .i64 gb)].toArray 31 (0, 0))] := hs46
     refine zE 1 (hK44 _ _ ?_)
     refine W.ret ?_
     exfalso; omega
    ·
     have h39p := of_decide_eq_false h39
     refine zC00 hs17 (bof_err (gw := gw) (gi := gi) (gb := gb) (n_ := n_) (hv := (viewAt_old hs17 hv)) (hN := h39p) B _) fun w49 hs51 => ?_
     refine zE 5 (hK38 _ _ ?_)
     refine W.sr fun K52 hK52 => ?_
     refine zR 1 ?_
     refine ops_R (runs_loadAgg (ad := ⟨b4, 0, none⟩) (cs := [(.int .i64 gw), (.int .i64 gi), (.int .i64 gb)]) (by kernel_rfl) (cells_sub (hs51.heapAt 2 rfl) rfl)) ?_
     refine zR 3 ?_
     have hs55 := St.f1 hs51
     refine ops_store (off := 0) (cs := [(.pointer none), (.int .i64 0), (.int .i64 0), (.int .i64 0), (.pointer none)]) (vs := [(.pointer (some ⟨vb, 0, none⟩)), (.int .i64 gw), (.int .i64 gi), (.int .i64 gb), (.pointer none)]) hs55 (by kernel_rfl) (by simp) rfl (fun w53 hs54 => ?_)
     have hs56 : St B w [] w53 [blk b7 (.cells [(.pointer (some ⟨vb, 0, none⟩)), (.int .i64 gw), (.int .i64 gi), (.int .i64 gb), (.pointer none)].toArray 97 (0, 0)), blk b14 (.cells [(.int .u64 ((igetM img l gw gi gb n_).1.k)), (.int .u64 ((igetM img l gw gi gb n_).1.l)), (.int .u64 ((igetM img l gw gi gb n_).1.o)), (.int .u64 ((igetM img l gw gi gb n_).1.s)), (.int .u64 ((igetM img l gw gi gb n_).1.a)), (.int .u64 ((igetM img l gw gi gb n_).1.b)), (.int .u64 ((igetM img l gw gi gb n_).1.c)), (.int .u64 ((igetM img l gw gi gb n_).1.d)), (.int .u64 ((igetM img l gw gi gb n_).1.e)), (.int .u64 ((igetM img l gw gi gb n_).1.m))].toArray 153 (0, 0)), blk b4 (.cells [(.int .i64 gw), (.int .i64 gi), (.int .i64 gb)].toArray 31 (0, 0))] := hs54
     refine zE 1 (hK52 _ _ ?_)
     refine W.ret ?_
     exfalso; omega
 ·
  have h20p := of_decide_eq_false h20
  refine zS 20 h20 ?_
  refine zS 19 h20 ?_
  refine zE 4 (hK19 _ _ ?_)
  refine W.cond_false false (by kernel_rfl) rfl ?_
  refine W.skip ?_
  refine hK18 _ _ ?_
  refine W.seq fun K57 hK57 => ?_
  refine W.sr fun K58 hK58 => ?_
  refine zE 2 (hK58 _ _ ?_)
  refine W.cond (!decide ((igetM img l gw gi gb n_).2 = 0)) (by kernel_rfl) (fun h59 => ?_) (fun h59 => ?_)
  ·
   have h59p : ¬ ((igetM img l gw gi gb n_).2 = 0) := of_decide_eq_false (bnot_true h59)
   refine W.sr fun K60 hK60 => ?_
   refine zR 2 ?_
   have hs63 := St.f1 hs17
   refine ops_store (off := 0) (cs := [(.pointer none), (.int .i64 0), (.int .i64 0), (.int .i64 0), (.pointer none)]) (vs := [(.pointer none), (.int .i64 0), (.int .i64 0), (.int .i64 0), (.pointer none)]) hs63 (by kernel_rfl) (by simp) rfl (fun w61 hs62 => ?_)
   have hs64 : St B w [] w61 [blk b7 (.cells [(.pointer none), (.int .i64 0), (.int .i64 0), (.int .i64 0), (.pointer none)].toArray 97 (0, 0)), blk b14 (.cells [(.int .u64 ((igetM img l gw gi gb n_).1.k)), (.int .u64 ((igetM img l gw gi gb n_).1.l)), (.int .u64 ((igetM img l gw gi gb n_).1.o)), (.int .u64 ((igetM img l gw gi gb n_).1.s)), (.int .u64 ((igetM img l gw gi gb n_).1.a)), (.int .u64 ((igetM img l gw gi gb n_).1.b)), (.int .u64 ((igetM img l gw gi gb n_).1.c)), (.int .u64 ((igetM img l gw gi gb n_).1.d)), (.int .u64 ((igetM img l gw gi gb n_).1.e)), (.int .u64 ((igetM img l gw gi gb n_).1.m))].toArray 153 (0, 0)), blk b4 (.cells [(.int .i64 gw), (.int .i64 gi), (.int .i64 gb)].toArray 31 (0, 0))] := hs62
   refine zE 1 (hK60 _ _ ?_)
   refine W.ret (ret_seq ?_)
   have hs65 := St.tk0 hs64
   refine ret_of (.tuple #[(.agg #[(.pointer none), (.int .i64 0), (.int .i64 0), (.int .i64 0), (.pointer none)]), (.int .i64 ((igetM img l gw gi gb n_).2))]) (resS_of (by kernel_rfl) (resD_two rfl (.agg (ad := ⟨b7, 0, none⟩) (cs := [(.pointer none), (.int .i64 0), (.int .i64 0), (.int .i64 0), (.pointer none)]) (by kernel_rfl) (by kernel_rfl) (cells_sub (hs64.heapAt 0 rfl) rfl)) (.tmp (by kernel_rfl)))) ⟨_, ⟨rfl, rfl⟩, hs65⟩
  ·
   have h59p : (igetM img l gw gi gb n_).2 = 0 := of_decide_eq_true (bnot_false h59)
   refine W.skip ?_
   refine hK57 _ _ ?_
   refine W.sr fun K66 hK66 => ?_
   refine zR 1 ?_
   refine ops_R (runs_loadAgg (ad := ⟨b4, 0, none⟩) (cs := [(.int .i64 gw), (.int .i64 gi), (.int .i64 gb)]) (by kernel_rfl) (cells_sub (hs17.heapAt 2 rfl) rfl)) ?_
   refine zR 1 ?_
   rcases Bool.eq_false_or_eq_true (decide ((igetM img l gw gi gb n_).2 = 0)) with h67 | h67
   ·
    have h67p := of_decide_eq_true h67
    refine ops_call0 hs17 (by kernel_rfl) (bof_ok (gw := gw) (gi := gi) (gb := gb) (n_ := n_) (hv := (viewAt_old hs17 hv)) (hP := h67p) B _) ?_
    rintro _ _ w69 ⟨b68, rfl, rfl⟩ hs70
    have hs71 := St.ap1 hs70
    refine zE 5 (hK66 _ _ ?_)
    refine W.sr fun K72 hK72 => ?_
    refine zR 1 ?_
    refine ops_R (runs_loadAgg (ad := ⟨b4, 0, none⟩) (cs := [(.int .i64 gw), (.int .i64 gi), (.int .i64 gb)]) (by kernel_rfl) (cells_sub (hs71.heapAt 3 rfl) rfl)) ?_
    refine zR 3 ?_
    have hs75 := St.f2 hs71
    refine ops_store (off := 0) (cs := [(.pointer none), (.int .i64 0), (.int .i64 0), (.int .i64 0), (.pointer none)]) (vs := [(.pointer (some ⟨vb, 0, none⟩)), (.int .i64 gw), (.int .i64 gi), (.int .i64 gb), (.pointer (some ⟨b68, 0, none⟩))]) hs75 (by kernel_rfl) (by simp) rfl (fun w73 hs74 => ?_)
    have hs76 : St B w [] w73 [blk b7 (.cells [(.pointer (some ⟨vb, 0, none⟩)), (.int .i64 gw), (.int .i64 gi), (.int .i64 gb), (.pointer (some ⟨b68, 0, none⟩))].toArray 97 (0, 0)), blk b68 (.cells [(.pointer (some ⟨vb, 0, none⟩)), (.int .i64 gw), (.int .i64 gi), (.int .i64 gb), (.int .i64 n_)].toArray 164 (0, 0)), blk b14 (.cells [(.int .u64 ((igetM img l gw gi gb n_).1.k)), (.int .u64 ((igetM img l gw gi gb n_).1.l)), (.int .u64 ((igetM img l gw gi gb n_).1.o)), (.int .u64 ((igetM img l gw gi gb n_).1.s)), (.int .u64 ((igetM img l gw gi gb n_).1.a)), (.int .u64 ((igetM img l gw gi gb n_).1.b)), (.int .u64 ((igetM img l gw gi gb n_).1.c)), (.int .u64 ((igetM img l gw gi gb n_).1.d)), (.int .u64 ((igetM img l gw gi gb n_).1.e)), (.int .u64 ((igetM img l gw gi gb n_).1.m))].toArray 153 (0, 0)), blk b4 (.cells [(.int .i64 gw), (.int .i64 gi), (.int .i64 gb)].toArray 31 (0, 0))] := hs74
    refine zE 1 (hK72 _ _ ?_)
    refine W.ret ?_
    exfalso; omega
   ·
    have h67p := of_decide_eq_false h67
    refine zC00 hs17 (bof_err (gw := gw) (gi := gi) (gb := gb) (n_ := n_) (hv := (viewAt_old hs17 hv)) (hN := h67p) B _) fun w77 hs79 => ?_
    refine zE 5 (hK66 _ _ ?_)
    refine W.sr fun K80 hK80 => ?_
    refine zR 1 ?_
    refine ops_R (runs_loadAgg (ad := ⟨b4, 0, none⟩) (cs := [(.int .i64 gw), (.int .i64 gi), (.int .i64 gb)]) (by kernel_rfl) (cells_sub (hs79.heapAt 2 rfl) rfl)) ?_
    refine zR 3 ?_
    have hs83 := St.f1 hs79
    refine ops_store (off := 0) (cs := [(.pointer none), (.int .i64 0), (.int .i64 0), (.int .i64 0), (.pointer none)]) (vs := [(.pointer (some ⟨vb, 0, none⟩)), (.int .i64 gw), (.int .i64 gi), (.int .i64 gb), (.pointer none)]) hs83 (by kernel_rfl) (by simp) rfl (fun w81 hs82 => ?_)
    have hs84 : St B w [] w81 [blk b7 (.cells [(.pointer (some ⟨vb, 0, none⟩)), (.int .i64 gw), (.int .i64 gi), (.int .i64 gb), (.pointer none)].toArray 97 (0, 0)), blk b14 (.cells [(.int .u64 ((igetM img l gw gi gb n_).1.k)), (.int .u64 ((igetM img l gw gi gb n_).1.l)), (.int .u64 ((igetM img l gw gi gb n_).1.o)), (.int .u64 ((igetM img l gw gi gb n_).1.s)), (.int .u64 ((igetM img l gw gi gb n_).1.a)), (.int .u64 ((igetM img l gw gi gb n_).1.b)), (.int .u64 ((igetM img l gw gi gb n_).1.c)), (.int .u64 ((igetM img l gw gi gb n_).1.d)), (.int .u64 ((igetM img l gw gi gb n_).1.e)), (.int .u64 ((igetM img l gw gi gb n_).1.m))].toArray 153 (0, 0)), blk b4 (.cells [(.int .i64 gw), (.int .i64 gi), (.int .i64 gb)].toArray 31 (0, 0))] := hs82
    refine zE 1 (hK80 _ _ ?_)
    refine W.ret ?_
    exfalso; omega

end Go.Proofs.YtmmclabkkigiaaaGreatDoor

set_option linter.unusedVariables false
set_option maxRecDepth 20000
set_option maxHeartbeats 4000000
namespace Go.Proofs.YtmmclabkkigiaaaGreatDoor
open Go Go.RowKit
set_option linter.unusedSimpArgs false
set_option linter.unusedVariables false

def eFind_M (img : List Int) (l : List (Int × Int)) (gw : Int) (gi : Int) (gb : Int) (n_ : Int) (tx_ : ByteArray) : Option (ByteArray × Int × Int × Int) :=
 if (igetM img l gw gi gb n_).2 = 0 then (if (igetM img l gw gi gb n_).1.k = 2 then ((tfind_M img l gw gi gb n_ tx_).bind fun r25 =>
some (r25.1, r25.2.1, r25.2.2.1, r25.2.2.2)) else (some (ByteArray.empty, 0, 0, 10))) else ((some ((igetM img l gw gi gb n_).2)).bind fun r65 =>
if r65 = 0 then (none) else (some (ByteArray.empty, 0, 0, r65)))

theorem eFind_walk {img : List Int} {l : List (Int × Int)} {gw : Int} {gi : Int} {gb : Int} {n_ : Int} {tx_ : ByteArray} {vb : Nat} {r : ByteArray × Int × Int × Int} (B : Nat) (w : World) (hm : eFind_M img l gw gi gb n_ tx_ = some r) : Spec Tryz.prog 13 #[(.pointer (some ⟨vb, 0, none⟩)), (.agg #[(.int .i64 gw), (.int .i64 gi), (.int .i64 gb)]), (.int .i64 n_), (.string tx_)] B w [viewA (ptr vb) img l] (fun v H' => v = (.tuple #[(.agg #[(.string r.1), (.int .i64 r.2.1)]), (.int .i64 r.2.2.1), (.int .i64 r.2.2.2)]) ∧ H' = [viewA (ptr vb) img l]) := by
 refine spec_W Tryz.func13 rfl fun l0 hs => ?_
 unfold eFind_M at hm
 refine W.sr fun K1 hK1 => ?_
 refine zN [(.int .i64 gw), (.int .i64 gi), (.int .i64 gb)] 31 hs fun b4 w2 hs3 => ?_
 refine zN [(.string ByteArray.empty), (.int .i64 0)] 33 hs3 fun b7 w5 hs6 => ?_
 refine zE 2 (hK1 _ _ ?_)
 refine W.sr fun K9 hK9 => ?_
 refine zR 1 ?_
 refine ops_R (runs_loadAgg (ad := ⟨b4, 0, none⟩) (cs := [(.int .i64 gw), (.int .i64 gi), (.int .i64 gb)]) (by kernel_rfl) (cells_sub (hs6.heapAt 1 rfl) rfl)) ?_
 refine zR 1 ?_
 rcases Bool.eq_false_or_eq_true (decide ((igetM img l gw gi gb n_).2 = 0)) with h10 | h10
 ·
  obtain ⟨h10p, hm⟩ := iY hm h10
  rcases Bool.eq_false_or_eq_true (decide ((igetM img l gw gi gb n_).1.k = 2)) with h11 | h11
  ·
   obtain ⟨h11p, hm⟩ := iY hm h11
   refine ops_call0 hs6 (by kernel_rfl) (eopen_ok (gw := gw) (gi := gi) (gb := gb) (n_ := n_) (hv := (hs6.entAt 2 rfl viewA_at)) (hP := h10p) (hK := h11p) B _) ?_
   rintro _ _ w13 ⟨b12, rfl, rfl⟩ hs14
   have hs15 := St.ap1 hs14
   refine zR 3 ?_
   refine zN [(.pointer none), (.int .i64 0), (.int .i64 0), (.int .i64 0), (.pointer none)] 97 hs15 fun b18 w16 hs17 => ?_
   refine ops_store (off := 0) (cs := [(.pointer none), (.int .i64 0), (.int .i64 0), (.int .i64 0), (.pointer none)]) (vs := [(.pointer (some ⟨vb, 0, none⟩)), (.int .i64 gw), (.int .i64 gi), (.int .i64 gb), (.pointer (some ⟨b12, 0, none⟩))]) hs17 (by kernel_rfl) (by simp) rfl (fun w19 hs20 => ?_)
   have hs21 : St B w l0 w19 [blk b18 (.cells [(.pointer (some ⟨vb, 0, none⟩)), (.int .i64 gw), (.int .i64 gi), (.int .i64 gb), (.pointer (some ⟨b12, 0, none⟩))].toArray 97 (0, 0)), blk b12 (.cells [(.pointer (some ⟨vb, 0, none⟩)), (.int .i64 gw), (.int .i64 gi), (.int .i64 gb), (.int .i64 n_)].toArray 164 (0, 0)), blk b7 (.cells [(.string ByteArray.empty), (.int .i64 0)].toArray 33 (0, 0)), blk b4 (.cells [(.int .i64 gw), (.int .i64 gi), (.int .i64 gb)].toArray 31 (0, 0)), viewA (ptr vb) img l] := hs20
   refine zE 1 (hK9 _ _ ?_)
   refine W.seq fun K22 hK22 => ?_
   refine W.sr fun K23 hK23 => ?_
   refine zE 2 (hK23 _ _ ?_)
   refine W.cond_false false (by kernel_rfl) rfl ?_
   refine W.skip ?_
   refine hK22 _ _ ?_
   refine W.sr fun K24 hK24 => ?_
   refine ops_R (runs_loadAgg (ad := ⟨b18, 0, none⟩) (cs := [(.pointer (some ⟨vb, 0, none⟩)), (.int .i64 gw), (.int .i64 gi), (.int .i64 gb), (.pointer (some ⟨b12, 0, none⟩))]) (by kernel_rfl) (cells_sub (hs21.heapAt 0 rfl) rfl)) ?_
   refine zR 1 ?_
   obtain ⟨r25, h26, hm⟩ := bind_some hm
   have hs27 := St.f4 hs21
   have hs28 := St.f2 hs27
   refine zC22 hs28 (tfind_walk (mb := b12) (vb := vb) (tx_ := tx_) (img := img) (l := l) (gw := gw) (gi := gi) (gb := gb) (n_ := n_) (hm := h26) B _) fun w29 hs31 => ?_
   refine zR 3 ?_
   have hs34 := St.f3 hs31
   refine ops_store (off := 0) (cs := [(.string ByteArray.empty), (.int .i64 0)]) (vs := [(.string r25.1), (.int .i64 r25.2.1)]) hs34 (by kernel_rfl) (by simp) rfl (fun w32 hs33 => ?_)
   have hs35 : St B w l0 w32 [blk b7 (.cells [(.string r25.1), (.int .i64 r25.2.1)].toArray 33 (0, 0)), blk b12 (.cells [(.pointer (some ⟨vb, 0, none⟩)), (.int .i64 gw), (.int .i64 gi), (.int .i64 gb), (.int .i64 n_)].toArray 164 (0, 0)), viewA (ptr vb) img l, blk b18 (.cells [(.pointer (some ⟨vb, 0, none⟩)), (.int .i64 gw), (.int .i64 gi), (.int .i64 gb), (.pointer (some ⟨b12, 0, none⟩))].toArray 97 (0, 0)), blk b4 (.cells [(.int .i64 gw), (.int .i64 gi), (.int .i64 gb)].toArray 31 (0, 0))] := hs33
   refine zE 2 (hK24 _ _ ?_)
   refine W.ret ?_
   obtain rfl := some_inj hm
   have hs36 := St.f2 hs35
   have hs37 := St.tk1 hs36
   refine ret_of (.tuple #[(.agg #[(.string r25.1), (.int .i64 r25.2.1)]), (.int .i64 r25.2.2.1), (.int .i64 r25.2.2.2)]) (resS_of (by kernel_rfl) (resD_three rfl (.agg (ad := ⟨b7, 0, none⟩) (cs := [(.string r25.1), (.int .i64 r25.2.1)]) (by kernel_rfl) (by kernel_rfl) (cells_sub (hs35.heapAt 0 rfl) rfl)) (.tmp (by kernel_rfl)) (.tmp (by kernel_rfl)))) ⟨_, ⟨rfl, rfl⟩, hs37⟩
  ·
   obtain ⟨h11p, hm⟩ := iN hm h11
   refine zC00 hs6 (eopen_dir (gw := gw) (gi := gi) (gb := gb) (n_ := n_) (hv := (hs6.entAt 2 rfl viewA_at)) (hP := h10p) (hK := h11p) B _) fun w38 hs40 => ?_
   refine zR 3 ?_
   refine zN [(.pointer none), (.int .i64 0), (.int .i64 0), (.int .i64 0), (.pointer none)] 97 hs40 fun b43 w41 hs42 => ?_
   refine ops_store (off := 0) (cs := [(.pointer none), (.int .i64 0), (.int .i64 0), (.int .i64 0), (.pointer none)]) (vs := [(.pointer none), (.int .i64 0), (.int .i64 0), (.int .i64 0), (.pointer none)]) hs42 (by kernel_rfl) (by simp) rfl (fun w44 hs45 => ?_)
   have hs46 : St B w l0 w44 [blk b43 (.cells [(.pointer none), (.int .i64 0), (.int .i64 0), (.int .i64 0), (.pointer none)].toArray 97 (0, 0)), blk b7 (.cells [(.string ByteArray.empty), (.int .i64 0)].toArray 33 (0, 0)), blk b4 (.cells [(.int .i64 gw), (.int .i64 gi), (.int .i64 gb)].toArray 31 (0, 0)), viewA (ptr vb) img l] := hs45
   refine zE 1 (hK9 _ _ ?_)
   refine W.seq fun K47 hK47 => ?_
   refine W.sr fun K48 hK48 => ?_
   refine zE 2 (hK48 _ _ ?_)
   refine W.cond_true true (by kernel_rfl) rfl ?_
   refine W.sr fun K49 hK49 => ?_
   refine zR 2 ?_
   have hs52 := St.f1 hs46
   refine ops_store (off := 0) (cs := [(.string ByteArray.empty), (.int .i64 0)]) (vs := [(.string ByteArray.empty), (.int .i64 0)]) hs52 (by kernel_rfl) (by simp) rfl (fun w50 hs51 => ?_)
   have hs53 : St B w l0 w50 [blk b7 (.cells [(.string ByteArray.empty), (.int .i64 0)].toArray 33 (0, 0)), blk b43 (.cells [(.pointer none), (.int .i64 0), (.int .i64 0), (.int .i64 0), (.pointer none)].toArray 97 (0, 0)), blk b4 (.cells [(.int .i64 gw), (.int .i64 gi), (.int .i64 gb)].toArray 31 (0, 0)), viewA (ptr vb) img l] := hs51
   refine zE 2 (hK49 _ _ ?_)
   refine W.ret (ret_seq ?_)
   obtain rfl := some_inj hm
   have hs54 := St.f3 hs53
   have hs55 := St.tk1 hs54
   refine ret_of (.tuple #[(.agg #[(.string ByteArray.empty), (.int .i64 0)]), (.int .i64 0), (.int .i64 10)]) (resS_of (by kernel_rfl) (resD_three rfl (.agg (ad := ⟨b7, 0, none⟩) (cs := [(.string ByteArray.empty), (.int .i64 0)]) (by kernel_rfl) (by kernel_rfl) (cells_sub (hs53.heapAt 0 rfl) rfl)) (.tmp (by kernel_rfl)) (.tmp (by kernel_rfl)))) ⟨_, ⟨rfl, rfl⟩, hs55⟩
 ·
  obtain ⟨h10p, hm⟩ := iN hm h10
  refine zC00 hs6 (eopen_err (gw := gw) (gi := gi) (gb := gb) (n_ := n_) (hv := (hs6.entAt 2 rfl viewA_at)) (hN := h10p) B _) fun w56 hs58 => ?_
  refine zR 3 ?_
  refine zN [(.pointer none), (.int .i64 0), (.int .i64 0), (.int .i64 0), (.pointer none)] 97 hs58 fun b61 w59 hs60 => ?_
  refine ops_store (off := 0) (cs := [(.pointer none), (.int .i64 0), (.int .i64 0), (.int .i64 0), (.pointer none)]) (vs := [(.pointer none), (.int .i64 0), (.int .i64 0), (.int .i64 0), (.pointer none)]) hs60 (by kernel_rfl) (by simp) rfl (fun w62 hs63 => ?_)
  have hs64 : St B w l0 w62 [blk b61 (.cells [(.pointer none), (.int .i64 0), (.int .i64 0), (.int .i64 0), (.pointer none)].toArray 97 (0, 0)), blk b7 (.cells [(.string ByteArray.empty), (.int .i64 0)].toArray 33 (0, 0)), blk b4 (.cells [(.int .i64 gw), (.int .i64 gi), (.int .i64 gb)].toArray 31 (0, 0)), viewA (ptr vb) img l] := hs63
  refine zR 1 ?_
  obtain ⟨r65, h66, hm⟩ := bind_some hm
  replace h66 := some_inj h66
  refine ops_set 12 (v := .int .i64 r65) (Eq.trans (by kernel_rfl) (congrArg (Value.int .i64) h66)) ?_
  refine zD (hK9 _ _ ?_)
  refine W.seq fun K67 hK67 => ?_
  refine W.sr fun K68 hK68 => ?_
  refine zE 2 (hK68 _ _ ?_)
  refine W.cond (!decide (r65 = 0)) (by kernel_rfl) (fun h69 => ?_) (fun h69 => ?_)
  rotate_left
  ·
   have h69p : r65 = 0 := of_decide_eq_true (bnot_false h69)
   exact absurd h69p (fun e_ => h10p (h66.trans e_))
  ·
   have h69p : ¬ (r65 = 0) := of_decide_eq_false (bnot_true h69)
   replace hm := ite_no hm h69p
   refine W.sr fun K70 hK70 => ?_
   refine zR 2 ?_
   have hs73 := St.f1 hs64
   refine ops_store (off := 0) (cs := [(.string ByteArray.empty), (.int .i64 0)]) (vs := [(.string ByteArray.empty), (.int .i64 0)]) hs73 (by kernel_rfl) (by simp) rfl (fun w71 hs72 => ?_)
   have hs74 : St B w l0 w71 [blk b7 (.cells [(.string ByteArray.empty), (.int .i64 0)].toArray 33 (0, 0)), blk b61 (.cells [(.pointer none), (.int .i64 0), (.int .i64 0), (.int .i64 0), (.pointer none)].toArray 97 (0, 0)), blk b4 (.cells [(.int .i64 gw), (.int .i64 gi), (.int .i64 gb)].toArray 31 (0, 0)), viewA (ptr vb) img l] := hs72
   refine zE 2 (hK70 _ _ ?_)
   refine W.ret (ret_seq ?_)
   obtain rfl := some_inj hm
   have hs75 := St.f3 hs74
   have hs76 := St.tk1 hs75
   refine ret_of (.tuple #[(.agg #[(.string ByteArray.empty), (.int .i64 0)]), (.int .i64 0), (.int .i64 r65)]) (resS_of (by kernel_rfl) (resD_three rfl (.agg (ad := ⟨b7, 0, none⟩) (cs := [(.string ByteArray.empty), (.int .i64 0)]) (by kernel_rfl) (by kernel_rfl) (cells_sub (hs74.heapAt 0 rfl) rfl)) (.tmp (by kernel_rfl)) (.tmp (by kernel_rfl)))) ⟨_, ⟨rfl, rfl⟩, hs76⟩

end Go.Proofs.YtmmclabkkigiaaaGreatDoor

set_option linter.unusedVariables false
set_option maxRecDepth 20000
set_option maxHeartbeats 2000000
namespace Go.Proofs.YtmmclabkkigiaaaGreatDoor
open Go Go.RowKit
set_option linter.unusedSimpArgs false
set_option linter.unusedVariables false

def bneed_M (img : List Int) (l : List (Int × Int)) (gw : Int) (gi : Int) (gb : Int) (n_ : Int) (k_ : Int) : Option (Int) :=
 (bat_M img l gw gi gb n_ k_).bind fun r3 =>
if r3.2 = 0 then (if r3.1 = 0 then ((bword_M img l gw gi gb n_ k_).bind fun r14 =>
if r14.2 = true then (some 1) else (some 2)) else (some 0)) else (some 0)

theorem bneed_walk {img : List Int} {l : List (Int × Int)} {gw : Int} {gi : Int} {gb : Int} {n_ : Int} {k_ : Int} {mb vb : Nat} {r : Int} (B : Nat) (w : World) (hmb : w.heap[mb]? = some (.cells [(.pointer (some ⟨vb, 0, none⟩)), (.int .i64 gw), (.int .i64 gi), (.int .i64 gb), (.int .i64 n_)].toArray 164 (0, 0))) (hv : ViewAt (ptr vb) img l w) (hm : bneed_M img l gw gi gb n_ k_ = some r) : Spec Tryz.prog 117 #[(.pointer (some ⟨mb, 0, none⟩)), (.int .i64 k_)] B w [] (fun v H' => v = (.int .i64 r) ∧ H' = []) := by
 refine spec_Q Tryz.func117 rfl fun hs => ?_
 unfold bneed_M at hm
 refine W.sr fun K1 hK1 => ?_
 refine zE 1 (hK1 _ _ ?_)
 refine W.sr fun K2 hK2 => ?_
 refine zR 2 ?_
 obtain ⟨r3, h4, hm⟩ := bind_some hm
 refine zC00 hs (bat_walk (k_ := k_) (img := img) (l := l) (gw := gw) (gi := gi) (gb := gb) (n_ := n_) (hmb := (hs.old hmb)) (hv := (viewAt_old hs hv)) (hm := h4) B _) fun w5 hs7 => ?_
 refine zE 5 (hK2 _ _ ?_)
 refine W.seq fun K8 hK8 => ?_
 refine W.sr fun K9 hK9 => ?_
 refine zR 3 ?_
 rcases Bool.eq_false_or_eq_true (!decide (r3.2 = 0)) with h10 | h10
 rotate_left
 ·
  have h10p : r3.2 = 0 := of_decide_eq_true (bnot_false h10)
  replace hm := ite_yes hm h10p
  refine zS 17 h10 ?_
  refine zS 16 h10 ?_
  refine zE 3 (hK9 _ _ ?_)
  refine W.cond (!decide (r3.1 = 0)) (by kernel_rfl) (fun h11 => ?_) (fun h11 => ?_)
  rotate_left
  ·
   have h11p : r3.1 = 0 := of_decide_eq_true (bnot_false h11)
   replace hm := ite_yes hm h11p
   refine W.skip ?_
   refine hK8 _ _ ?_
   refine W.seq fun K12 hK12 => ?_
   refine W.sr fun K13 hK13 => ?_
   refine zR 2 ?_
   obtain ⟨r14, h15, hm⟩ := bind_some hm
   refine zC00 hs7 (bword_walk (k_ := k_) (img := img) (l := l) (gw := gw) (gi := gi) (gb := gb) (n_ := n_) (hmb := (hs7.old hmb)) (hv := (viewAt_old hs7 hv)) (hm := h15) B _) fun w16 hs18 => ?_
   refine zE 5 (hK13 _ _ ?_)
   refine W.sr fun K19 hK19 => ?_
   refine zE 2 (hK19 _ _ ?_)
   refine W.cond (!r14.2) (by kernel_rfl) (fun h20 => ?_) (fun h20 => ?_)
   rotate_left
   ·
    have h20p : r14.2 = true := (bnot_false h20)
    replace hm := ite_yes hm h20p
    refine W.skip ?_
    refine hK12 _ _ ?_
    refine W.sr fun K21 hK21 => ?_
    refine zE 1 (hK21 _ _ ?_)
    refine W.ret ?_
    obtain rfl := some_inj hm
    refine ret_of (.int .i64 1) (by kernel_rfl) ⟨_, ⟨rfl, rfl⟩, hs18⟩
   ·
    have h20p : ¬ (r14.2 = true) := ne_true_of_eq_false (bnot_true h20)
    replace hm := ite_no hm h20p
    refine W.sr fun K22 hK22 => ?_
    refine zE 1 (hK22 _ _ ?_)
    refine W.ret (ret_seq ?_)
    obtain rfl := some_inj hm
    refine ret_of (.int .i64 2) (by kernel_rfl) ⟨_, ⟨rfl, rfl⟩, hs18⟩
  ·
   have h11p : ¬ (r3.1 = 0) := of_decide_eq_false (bnot_true h11)
   replace hm := ite_no hm h11p
   refine W.sr fun K23 hK23 => ?_
   refine zE 1 (hK23 _ _ ?_)
   refine W.ret (ret_seq ?_)
   obtain rfl := some_inj hm
   refine ret_of (.int .i64 0) (by kernel_rfl) ⟨_, ⟨rfl, rfl⟩, hs7⟩
 ·
  have h10p : ¬ (r3.2 = 0) := of_decide_eq_false (bnot_true h10)
  replace hm := ite_no hm h10p
  refine zS 17 h10 ?_
  refine zS 16 h10 ?_
  refine zE 3 (hK9 _ _ ?_)
  refine W.cond_true true (by kernel_rfl) rfl ?_
  refine W.sr fun K24 hK24 => ?_
  refine zE 1 (hK24 _ _ ?_)
  refine W.ret (ret_seq ?_)
  obtain rfl := some_inj hm
  refine ret_of (.int .i64 0) (by kernel_rfl) ⟨_, ⟨rfl, rfl⟩, hs7⟩

def bbare_B0 (img : List Int) (l : List (Int × Int)) (gw : Int) (gi : Int) (gb : Int) (b_ : Int) (k5 : Int → Option (Bool)) (p4 : Int) : Option (Bool) :=
 if p4 < 8 then (need (-9223372036854775808 ≤ ((placeOf 9 gw gi gb b_) + p4) ∧ ((placeOf 9 gw gi gb b_) + p4) ≤ 9223372036854775807) <|
if (vget img l ((placeOf 9 gw gi gb b_) + p4)) = 0 then (need (-9223372036854775808 ≤ (p4 + 1) ∧ (p4 + 1) ≤ 9223372036854775807) <|
k5 (p4 + 1)) else (some false)) else (some true)

def bbare_M (img : List Int) (l : List (Int × Int)) (gw : Int) (gi : Int) (gb : Int) (b_ : Int) : Option (Bool) :=
 iter (fun k_ s_ => bbare_B0 img l gw gi gb b_ k_ s_) FUEL 0

theorem bbare_walk {img : List Int} {l : List (Int × Int)} {gw : Int} {gi : Int} {gb : Int} {n_ : Int} {b_ : Int} {mb vb : Nat} {r : Bool} (B : Nat) (w : World) (hmb : w.heap[mb]? = some (.cells [(.pointer (some ⟨vb, 0, none⟩)), (.int .i64 gw), (.int .i64 gi), (.int .i64 gb), (.int .i64 n_)].toArray 164 (0, 0))) (hv : ViewAt (ptr vb) img l w) (hm : bbare_M img l gw gi gb b_ = some r) : Spec Tryz.prog 94 #[(.pointer (some ⟨mb, 0, none⟩)), (.int .i64 b_)] B w [] (fun v H' => v = (.bool r) ∧ H' = []) := by
 refine spec_Q Tryz.func94 rfl fun hs => ?_
 unfold bbare_M at hm
 refine W.sr fun K1 hK1 => ?_
 refine zE 1 (hK1 _ _ ?_)
 refine W.seq fun K2 hK2 => ?_
 refine W.sr fun K3 hK3 => ?_
 refine zE 1 (hK3 _ _ ?_)
 refine W.block ?_
 refine W.loop_iter (G := Int) (σ := Int) (fun | p4 => p4) (fun | p4, s_, w_ => (∃ us, s_ = slots 24 [(0, (.pointer (some ⟨mb, 0, none⟩))), (1, (.int .i64 b_)), (6, (.int .i64 p4))] us) ∧ St B w [] w_ []) 0 ⟨slots_intro _ (by kernel_rfl), hs⟩ hm ?_
 rintro k5 ih6 p4 _ w7 ⟨⟨us, rfl⟩, hs8⟩ hm
 replace hm : bbare_B0 img l gw gi gb b_ k5 p4 = some r := hm
 unfold bbare_B0 at hm
 refine W.sr fun K9 hK9 => ?_
 refine zE 1 (hK9 _ _ ?_)
 refine W.seq fun K10 hK10 => ?_
 refine W.cond (decide (p4 < 8)) (by kernel_rfl) (fun h11 => ?_) (fun h11 => ?_)
 ·
  obtain ⟨h11p, hm⟩ := iY hm h11
  refine W.skip ?_
  refine hK10 _ _ ?_
  refine W.seq fun K12 hK12 => ?_
  refine W.block ?_
  refine W.sr fun K13 hK13 => ?_
  refine zE 2 (hK13 _ _ ?_)
  refine W.seq fun K14 hK14 => ?_
  have hs15 := hs8.drew
  refine W.regionD [(0, 0), (1, 1), (2, 2), (4, 4), (0, 0), (16, 16), (32, 32), (64, 64), (0, 0), (384, 384), (0, 0), (1536, 1536), (2568, 2056), (4096, 4096)] (fun w_ => St B w [] w_ []) (by kernel_rfl) hs15 ?_
  refine any_val (v := (.pointer (some ⟨mb, 0, none⟩))) (v' := (.pointer (some ⟨mb, 0, none⟩))) 0 (by kernel_rfl) (fun _ => by kernel_rfl) rfl hs15 ?_
  refine any_val (v := (.pointer (some ⟨mb, 0, none⟩))) (v' := (.pointer (some ⟨mb, 0, none⟩))) 1 (by kernel_rfl) (fun _ => by kernel_rfl) rfl hs15 ?_
  refine any_val (v := (.pointer (some ⟨mb, 0, none⟩))) (v' := (.pointer (some ⟨mb, 0, none⟩))) 2 (by kernel_rfl) (fun _ => by kernel_rfl) rfl hs15 ?_
  refine any_R 3 (by kernel_rfl) (fun _ hS_ => runs_load (ad := ⟨mb, 0, none⟩) (v := (.pointer (some ⟨vb, 0, none⟩))) (by kernel_rfl) (cell_of_blk (hS_.old hmb) rfl)) hs15 ?_
  refine any_val (v := (.pointer (some ⟨mb, 0, none⟩))) (v' := (.pointer (some ⟨mb, 0, none⟩))) 4 (by kernel_rfl) (fun _ => by kernel_rfl) rfl hs15 ?_
  refine any_val (v := (.pointer (some ⟨mb, 0, none⟩))) (v' := (.pointer (some ⟨mb, 0, none⟩))) 5 (by kernel_rfl) (fun _ => by kernel_rfl) rfl hs15 ?_
  refine any_val (v := (.pointer (some ⟨mb, 1, none⟩))) (v' := (.pointer (some ⟨mb, 1, none⟩))) 6 (by kernel_rfl) (fun _ => by kernel_rfl) rfl hs15 ?_
  refine any_R 7 (by kernel_rfl) (fun _ hS_ => runs_loadAgg (ad := ⟨mb, 1, none⟩) (cs := [(.int .i64 gw), (.int .i64 gi), (.int .i64 gb)]) (by kernel_rfl) (cells_sub (hS_.old hmb) rfl)) hs15 ?_
  refine any_val (v := (.int .i64 b_)) (v' := (.int .i64 b_)) 8 (by kernel_rfl) (fun _ => by kernel_rfl) rfl hs15 ?_
  refine any_val (v := (.int .i64 p4)) (v' := (.int .i64 p4)) 10 (by kernel_rfl) (fun _ => by kernel_rfl) rfl hs15 ?_
  refine any_step 9 (by kernel_rfl) (by kernel_rfl) ?_
  refine zC00 hs15 (blockat_spec (gw := gw) (gi := gi) (gb := gb) (n_ := b_) B _) fun w16 hs18 => ?_
  refine ops_done (by kernel_rfl) ⟨hs18, ?_⟩
  obtain ⟨h19, hm⟩ := need_some hm
  refine any_val (v := .int .i64 (IntKind.i64.wrap ((placeOf 9 gw gi gb b_) + p4))) (v' := .int .i64 ((placeOf 9 gw gi gb b_) + p4)) 11 (by kernel_rfl) (fun _ => by kernel_rfl) (congrArg (Value.int .i64) (wrap_i64 h19.1 h19.2)) hs18 ?_
  refine any_step 12 (by kernel_rfl) (by kernel_rfl) ?_
  refine zC00 hs18 (get_spec (at_ := ((placeOf 9 gw gi gb b_) + p4)) (hv := (viewAt_old hs18 hv)) B _) fun w20 hs22 => ?_
  refine ops_done (by kernel_rfl) ⟨hs22, ?_⟩
  refine any_val (v := (.bool (!decide ((vget img l ((placeOf 9 gw gi gb b_) + p4)) = 0)))) (v' := (.bool (!decide ((vget img l ((placeOf 9 gw gi gb b_) + p4)) = 0)))) 13 (by kernel_rfl) (fun _ => by kernel_rfl) rfl hs22 ?_
  refine any_done (by kernel_rfl) ?_
  refine hK14 _ _ ?_
  refine W.cond (!decide ((vget img l ((placeOf 9 gw gi gb b_) + p4)) = 0)) (by kernel_rfl) (fun h23 => ?_) (fun h23 => ?_)
  rotate_left
  ·
   have h23p : (vget img l ((placeOf 9 gw gi gb b_) + p4)) = 0 := of_decide_eq_true (bnot_false h23)
   replace hm := ite_yes hm h23p
   refine W.skip ?_
   refine normal_block ?_
   refine hK12 _ _ ?_
   refine W.region ?_
   obtain ⟨h24, hm⟩ := need_some hm
   refine zI _ (wrap_i64 h24.1 h24.2) ?_
   refine zE 1 ?_
   refine loopAt_next ?_
   exact ih6 (p4 + 1) _ _ ⟨slots_intro _ (by kernel_rfl), hs22⟩ hm
  ·
   have h23p : ¬ ((vget img l ((placeOf 9 gw gi gb b_) + p4)) = 0) := of_decide_eq_false (bnot_true h23)
   replace hm := ite_no hm h23p
   refine W.sr fun K25 hK25 => ?_
   refine zE 1 (hK25 _ _ ?_)
   refine W.ret (ret_block (ret_seq (ret_seq (ret_block (ret_seq ?_)))))
   obtain rfl := some_inj hm
   refine ret_of (.bool false) (by kernel_rfl) ⟨_, ⟨rfl, rfl⟩, hs22⟩
 ·
  obtain ⟨h11p, hm⟩ := iN hm h11
  refine W.exit (exit_seq (exit_seq (exit_here ?_)))
  refine hK2 _ _ ?_
  refine W.sr fun K26 hK26 => ?_
  refine zE 1 (hK26 _ _ ?_)
  refine W.ret ?_
  obtain rfl := some_inj hm
  refine ret_of (.bool true) (by kernel_rfl) ⟨_, ⟨rfl, rfl⟩, hs8⟩

end Go.Proofs.YtmmclabkkigiaaaGreatDoor

set_option linter.unusedVariables false
set_option maxRecDepth 20000
set_option maxHeartbeats 4000000
namespace Go.Proofs.YtmmclabkkigiaaaGreatDoor
open Go Go.RowKit
set_option linter.unusedSimpArgs false
set_option linter.unusedVariables false

def btake_J2 (r18 : Int × Int × List (Int × Int)) (p30 : Int) (l31 : List (Int × Int)) : Option (Int × Int × List (Int × Int)) :=
 if p30 = 0 then (some (r18.1, 0, l31)) else (some (0, p30, l31))

def btake_J1 (img : List Int) (at_ : Int) (r18 : Int × Int × List (Int × Int)) (p27 : Int) : Option (Int × Int × List (Int × Int)) :=
 if p27 = 0 then (need (0 ≤ r18.1 ∧ r18.1 ≤ 18446744073709551615) <|
(some ((vwrite img r18.2.2 at_ r18.1).1)).bind fun r49 =>
btake_J2 r18 r49 ((vwrite img r18.2.2 at_ r18.1).2)) else (btake_J2 r18 p27 r18.2.2)

def btake_M (img : List Int) (l : List (Int × Int)) (gw : Int) (gi : Int) (gb : Int) (at_ : Int) : Option (Int × Int × List (Int × Int)) :=
 need ((img.length : Int) ≤ 1000000000000) <|
if May gw gi gb ∧ wordsOf gw gi gb ≤ (img.length : Int) then ((atakeb_M img l gw gi gb (placeOf 7 gw gi gb 0)).bind fun r18 =>
if r18.2.1 = 0 then (if r18.1 = 0 then (btake_J1 img at_ r18 4) else (btake_J1 img at_ r18 r18.2.1)) else (btake_J1 img at_ r18 r18.2.1)) else (if (if May gw gi gb then (8 : Int) else 1) = 0 then (some (0, 2, l)) else ((some (if May gw gi gb then (8 : Int) else 1)).bind fun r84 =>
some (0, r84, l)))

theorem btake_walk {img : List Int} {l : List (Int × Int)} {gw : Int} {gi : Int} {gb : Int} {n_ : Int} {at_ : Int} {mb vb : Nat} {r : Int × Int × List (Int × Int)} (B : Nat) (w : World) (hG : 1 < B) (hT : CellsAt (some ⟨1, 0, none⟩) tab8 w) (hm : btake_M img l gw gi gb at_ = some r) : Spec Tryz.prog 118 #[(.pointer (some ⟨mb, 0, none⟩)), (.int .i64 at_)] B w [blk mb (.cells [(.pointer (some ⟨vb, 0, none⟩)), (.int .i64 gw), (.int .i64 gi), (.int .i64 gb), (.int .i64 n_)].toArray 164 (0, 0)), viewA (ptr vb) img l] (fun v H' => v = (.tuple #[(.int .i64 r.1), (.int .i64 r.2.1)]) ∧ H' = [blk mb (.cells [(.pointer (some ⟨vb, 0, none⟩)), (.int .i64 gw), (.int .i64 gi), (.int .i64 gb), (.int .i64 n_)].toArray 164 (0, 0)), viewA (ptr vb) img r.2.2]) := by
 refine spec_W Tryz.func118 rfl fun l0 hs => ?_
 unfold btake_M at hm
 refine W.sr fun K1 hK1 => ?_
 refine zE 2 (hK1 _ _ ?_)
 refine W.seq fun K2 hK2 => ?_
 have hs3 := hs.drew
 refine W.regionD [(0, 0), (1, 1), (2, 2), (4, 4), (0, 0), (16, 16), (32, 32), (64, 64), (136, 136), (256, 256), (512, 512), (512, 512), (2047, 1024), (8191, 2048)] (fun w_ => St B w l0 w_ [blk mb (.cells [(.pointer (some ⟨vb, 0, none⟩)), (.int .i64 gw), (.int .i64 gi), (.int .i64 gb), (.int .i64 n_)].toArray 164 (0, 0)), viewA (ptr vb) img l]) (by kernel_rfl) hs3 ?_
 refine any_val (v := (.pointer (some ⟨mb, 0, none⟩))) (v' := (.pointer (some ⟨mb, 0, none⟩))) 0 (by kernel_rfl) (fun _ => by kernel_rfl) rfl hs3 ?_
 refine any_val (v := (.pointer (some ⟨mb, 0, none⟩))) (v' := (.pointer (some ⟨mb, 0, none⟩))) 1 (by kernel_rfl) (fun _ => by kernel_rfl) rfl hs3 ?_
 refine any_val (v := (.pointer (some ⟨mb, 0, none⟩))) (v' := (.pointer (some ⟨mb, 0, none⟩))) 2 (by kernel_rfl) (fun _ => by kernel_rfl) rfl hs3 ?_
 refine any_R 3 (by kernel_rfl) (fun _ hS_ => runs_load (ad := ⟨mb, 0, none⟩) (v := (.pointer (some ⟨vb, 0, none⟩))) (by kernel_rfl) (hS_.cellAt 0 rfl rfl)) hs3 ?_
 refine any_val (v := (.pointer (some ⟨mb, 0, none⟩))) (v' := (.pointer (some ⟨mb, 0, none⟩))) 4 (by kernel_rfl) (fun _ => by kernel_rfl) rfl hs3 ?_
 refine any_val (v := (.pointer (some ⟨mb, 0, none⟩))) (v' := (.pointer (some ⟨mb, 0, none⟩))) 5 (by kernel_rfl) (fun _ => by kernel_rfl) rfl hs3 ?_
 refine any_val (v := (.pointer (some ⟨mb, 1, none⟩))) (v' := (.pointer (some ⟨mb, 1, none⟩))) 6 (by kernel_rfl) (fun _ => by kernel_rfl) rfl hs3 ?_
 refine any_R 7 (by kernel_rfl) (fun _ hS_ => runs_loadAgg (ad := ⟨mb, 1, none⟩) (cs := [(.int .i64 gw), (.int .i64 gi), (.int .i64 gb)]) (by kernel_rfl) (cells_sub (hS_.heapAt 0 rfl) rfl)) hs3 ?_
 refine any_step 8 (by kernel_rfl) (by kernel_rfl) ?_
 obtain ⟨h4, hm⟩ := need_some hm
 rcases Bool.eq_false_or_eq_true (decide (May gw gi gb ∧ wordsOf gw gi gb ≤ (img.length : Int))) with h5 | h5
 ·
  obtain ⟨h5p, hm⟩ := iY hm h5
  refine ops_call0 hs3 (by kernel_rfl) (anew_ok (gw := gw) (gi := gi) (gb := gb) (hv := (hs3.entAt 1 rfl viewA_at)) (hz := h4) (hP := h5p) B _) ?_
  rintro _ _ w9 ⟨b6, b7, b8, rfl, rfl⟩ hs10
  have hs11 := St.ap3 hs10
  have hs12 := St.f4 hs11
  have hs13 := St.f4 hs12
  have hs14 := St.tk2 hs13
  refine ops_done (by kernel_rfl) ⟨hs14, ?_⟩
  refine any_val (v := (.tuple #[(.pointer (some ⟨b6, 0, none⟩)), (.int .i64 0)])) (v' := (.tuple #[(.pointer (some ⟨b6, 0, none⟩)), (.int .i64 0)])) 9 (by kernel_rfl) (fun _ => by kernel_rfl) rfl hs14 ?_
  refine any_val (v := (.pointer (some ⟨b6, 0, none⟩))) (v' := (.pointer (some ⟨b6, 0, none⟩))) 10 (by kernel_rfl) (fun _ => by kernel_rfl) rfl hs14 ?_
  refine any_val (v := (.int .i64 0)) (v' := (.int .i64 0)) 11 (by kernel_rfl) (fun _ => by kernel_rfl) rfl hs14 ?_
  refine any_val (v := (.pointer (some ⟨b6, 0, none⟩))) (v' := (.pointer (some ⟨b6, 0, none⟩))) 12 (by kernel_rfl) (fun _ => by kernel_rfl) rfl hs14 ?_
  refine any_val (v := (.int .i64 0)) (v' := (.int .i64 0)) 13 (by kernel_rfl) (fun _ => by kernel_rfl) rfl hs14 ?_
  refine any_done (by kernel_rfl) ?_
  refine hK2 _ _ ?_
  refine W.seq fun K15 hK15 => ?_
  refine W.sr fun K16 hK16 => ?_
  refine zE 2 (hK16 _ _ ?_)
  refine W.cond_false false (by kernel_rfl) rfl ?_
  refine W.skip ?_
  refine hK15 _ _ ?_
  refine W.sr fun K17 hK17 => ?_
  refine zR 1 ?_
  obtain ⟨r18, h19, hm⟩ := bind_some hm
  have hs20 := St.f4 hs11
  have hs21 := St.f3 hs20
  have hs22 := St.f3 hs21
  have hs23 := St.f3 hs22
  refine ops_call4 hs23 (by kernel_rfl) (atakeb_walk (ab := b6) (ib := b7) (bb := b8) (vb := vb) (img := img) (l := l) (gw := gw) (gi := gi) (gb := gb) (ia := (placeOf 6 gw gi gb 0)) (ba := (placeOf 7 gw gi gb 0)) (hG := hG) (hT := (hs11.oldCellsB hG hT)) (hm := h19) B _) ?_
  rintro _ _ w24 ⟨rfl, rfl⟩ hs25
  have hs26 := St.ap4 hs25
  refine zE 5 (hK17 _ _ ?_)
  refine W.seq_join (fun s_ w_ => ∃ (p27 : Int), (∃ us, s_ = slots 49 [(0, (.pointer (some ⟨mb, 0, none⟩))), (1, (.int .i64 at_)), (7, (.int .i64 p27)), (8, (.int .i64 r18.1))] us) ∧ St B w l0 w_ [viewA (ptr vb) img r18.2.2, blk mb (.cells [(.pointer (some ⟨vb, 0, none⟩)), (.int .i64 gw), (.int .i64 gi), (.int .i64 gb), (.int .i64 n_)].toArray 164 (0, 0)), blk b7 (.cells [(.pointer (some ⟨vb, 0, none⟩)), (.int .i64 (placeOf 6 gw gi gb 0)), (.int .i64 gi)].toArray 213 (0, 0)), blk b8 (.cells [(.pointer (some ⟨vb, 0, none⟩)), (.int .i64 (placeOf 7 gw gi gb 0)), (.int .i64 gb)].toArray 213 (0, 0)), blk b6 (.cells [(.pointer (some ⟨vb, 0, none⟩)), (.int .i64 gw), (.int .i64 gi), (.int .i64 gb), (.pointer (some ⟨b7, 0, none⟩)), (.int .i64 gi), (.pointer (some ⟨b8, 0, none⟩)), (.int .i64 gb)].toArray 208 (0, 0))] ∧ btake_J1 img at_ r18 p27 = some r) ?_ ?_
  ·
   rintro _ w28 ⟨p27, ⟨us, rfl⟩, hs29, hm⟩
   unfold btake_J1 at hm
   refine W.seq_join (fun s_ w_ => ∃ (p30 : Int) (l31 : List (Int × Int)), (∃ us, s_ = slots 49 [(7, (.int .i64 p30)), (8, (.int .i64 r18.1))] us) ∧ St B w l0 w_ [viewA (ptr vb) img l31, blk mb (.cells [(.pointer (some ⟨vb, 0, none⟩)), (.int .i64 gw), (.int .i64 gi), (.int .i64 gb), (.int .i64 n_)].toArray 164 (0, 0)), blk b7 (.cells [(.pointer (some ⟨vb, 0, none⟩)), (.int .i64 (placeOf 6 gw gi gb 0)), (.int .i64 gi)].toArray 213 (0, 0)), blk b8 (.cells [(.pointer (some ⟨vb, 0, none⟩)), (.int .i64 (placeOf 7 gw gi gb 0)), (.int .i64 gb)].toArray 213 (0, 0)), blk b6 (.cells [(.pointer (some ⟨vb, 0, none⟩)), (.int .i64 gw), (.int .i64 gi), (.int .i64 gb), (.pointer (some ⟨b7, 0, none⟩)), (.int .i64 gi), (.pointer (some ⟨b8, 0, none⟩)), (.int .i64 gb)].toArray 208 (0, 0))] ∧ btake_J2 r18 p30 l31 = some r) ?_ ?_
   ·
    rintro _ w32 ⟨p30, l31, ⟨us, rfl⟩, hs33, hm⟩
    unfold btake_J2 at hm
    refine W.seq fun K34 hK34 => ?_
    refine W.sr fun K35 hK35 => ?_
    refine zE 2 (hK35 _ _ ?_)
    refine W.cond (!decide (p30 = 0)) (by kernel_rfl) (fun h36 => ?_) (fun h36 => ?_)
    rotate_left
    ·
     have h36p : p30 = 0 := of_decide_eq_true (bnot_false h36)
     replace hm := ite_yes hm h36p
     refine W.skip ?_
     refine hK34 _ _ ?_
     refine W.sr fun K37 hK37 => ?_
     refine zE 3 (hK37 _ _ ?_)
     refine W.ret ?_
     obtain rfl := some_inj hm
     have hs38 := St.f1 hs33
     have hs39 := St.tk2 hs38
     refine ret_of (.tuple #[(.int .i64 r18.1), (.int .i64 0)]) (by kernel_rfl) ⟨_, ⟨rfl, rfl⟩, hs39⟩
    ·
     have h36p : ¬ (p30 = 0) := of_decide_eq_false (bnot_true h36)
     replace hm := ite_no hm h36p
     refine W.sr fun K40 hK40 => ?_
     refine zE 3 (hK40 _ _ ?_)
     refine W.ret (ret_seq ?_)
     obtain rfl := some_inj hm
     have hs41 := St.f1 hs33
     have hs42 := St.tk2 hs41
     refine ret_of (.tuple #[(.int .i64 0), (.int .i64 p30)]) (by kernel_rfl) ⟨_, ⟨rfl, rfl⟩, hs42⟩
   ·
    refine W.sr fun K43 hK43 => ?_
    refine zE 2 (hK43 _ _ ?_)
    refine W.cond (decide (p27 = 0)) (by kernel_rfl) (fun h44 => ?_) (fun h44 => ?_)
    ·
     obtain ⟨h44p, hm⟩ := iY hm h44
     refine W.region ?_
     refine zR 3 ?_
     refine zL ⟨mb, 0, none⟩ (.pointer (some ⟨vb, 0, none⟩)) (hs29.cellAt 1 rfl rfl) ?_
     refine zR 2 ?_
     obtain ⟨h45, hm⟩ := need_some hm
     refine zI _ (wrap_u64 h45.1 (Int.lt_of_le_of_lt h45.2 (by decide))) ?_
     refine zC11 hs29 (sset_spec (b := vb) (img := img) (l := r18.2.2) (at_ := at_) (x_ := r18.1) B _) fun w46 hs48 => ?_
     refine zR 1 ?_
     obtain ⟨r49, h50, hm⟩ := bind_some hm
     replace h50 := some_inj h50
     refine ops_set 7 (v := .int .i64 r49) (Eq.trans (by kernel_rfl) (congrArg (Value.int .i64) h50)) ?_
     refine zD ?_
     exact ⟨r49, ((vwrite img r18.2.2 at_ r18.1).2), slots_intro _ (by kernel_rfl), hs48, hm⟩
    ·
     obtain ⟨h44p, hm⟩ := iN hm h44
     refine W.skip ?_
     exact ⟨p27, r18.2.2, slots_intro _ (by kernel_rfl), hs29, hm⟩
  ·
   refine W.sr fun K51 hK51 => ?_
   refine zR 3 ?_
   rcases Bool.eq_false_or_eq_true (decide (r18.2.1 = 0)) with h52 | h52
   ·
    obtain ⟨h52p, hm⟩ := iY hm h52
    refine zS 31 h52 ?_
    refine zS 30 h52 ?_
    refine zE 3 (hK51 _ _ ?_)
    refine W.cond (decide (r18.1 = 0)) (by kernel_rfl) (fun h53 => ?_) (fun h53 => ?_)
    ·
     obtain ⟨h53p, hm⟩ := iY hm h53
     refine W.region ?_
     refine zE 1 ?_
     have hs54 := St.f2 hs26
     have hs55 := St.f2 hs54
     have hs56 := St.f4 hs55
     have hs57 := St.f4 hs56
     exact ⟨4, slots_intro _ (by kernel_rfl), hs57, hm⟩
    ·
     obtain ⟨h53p, hm⟩ := iN hm h53
     refine W.skip ?_
     have hs58 := St.f2 hs26
     have hs59 := St.f2 hs58
     have hs60 := St.f4 hs59
     have hs61 := St.f4 hs60
     exact ⟨r18.2.1, slots_intro _ (by kernel_rfl), hs61, hm⟩
   ·
    obtain ⟨h52p, hm⟩ := iN hm h52
    refine zS 31 h52 ?_
    refine zS 30 h52 ?_
    refine zE 3 (hK51 _ _ ?_)
    refine W.cond_false false (by kernel_rfl) rfl ?_
    refine W.skip ?_
    have hs62 := St.f2 hs26
    have hs63 := St.f2 hs62
    have hs64 := St.f4 hs63
    have hs65 := St.f4 hs64
    exact ⟨r18.2.1, slots_intro _ (by kernel_rfl), hs65, hm⟩
 ·
  obtain ⟨h5p, hm⟩ := iN hm h5
  refine zC00 hs3 (anew_err (gw := gw) (gi := gi) (gb := gb) (hv := (hs3.entAt 1 rfl viewA_at)) (hz := h4) (hN := h5p) B _) fun w66 hs68 => ?_
  refine ops_done (by kernel_rfl) ⟨hs68, ?_⟩
  refine any_val (v := (.tuple #[(.pointer none), (.int .i64 (if May gw gi gb then (8 : Int) else 1))])) (v' := (.tuple #[(.pointer none), (.int .i64 (if May gw gi gb then (8 : Int) else 1))])) 9 (by kernel_rfl) (fun _ => by kernel_rfl) rfl hs68 ?_
  refine any_val (v := (.pointer none)) (v' := (.pointer none)) 10 (by kernel_rfl) (fun _ => by kernel_rfl) rfl hs68 ?_
  refine any_val (v := (.int .i64 (if May gw gi gb then (8 : Int) else 1))) (v' := (.int .i64 (if May gw gi gb then (8 : Int) else 1))) 11 (by kernel_rfl) (fun _ => by kernel_rfl) rfl hs68 ?_
  refine any_val (v := (.pointer none)) (v' := (.pointer none)) 12 (by kernel_rfl) (fun _ => by kernel_rfl) rfl hs68 ?_
  refine any_val (v := (.int .i64 (if May gw gi gb then (8 : Int) else 1))) (v' := (.int .i64 (if May gw gi gb then (8 : Int) else 1))) 13 (by kernel_rfl) (fun _ => by kernel_rfl) rfl hs68 ?_
  refine any_done (by kernel_rfl) ?_
  refine hK2 _ _ ?_
  refine W.seq fun K69 hK69 => ?_
  refine W.sr fun K70 hK70 => ?_
  refine zE 2 (hK70 _ _ ?_)
  refine W.cond (!decide ((if May gw gi gb then (8 : Int) else 1) = 0)) (by kernel_rfl) (fun h71 => ?_) (fun h71 => ?_)
  rotate_left
  ·
   have h71p : (if May gw gi gb then (8 : Int) else 1) = 0 := of_decide_eq_true (bnot_false h71)
   replace hm := ite_yes hm h71p
   refine W.skip ?_
   refine hK69 _ _ ?_
   refine W.sr fun K72 hK72 => ?_
   refine zR 1 ?_
   refine zC00 hs68 (atakeb_nil B _) fun w73 hs75 => ?_
   refine zE 5 (hK72 _ _ ?_)
   refine W.seq fun K76 hK76 => ?_
   refine W.sr fun K77 hK77 => ?_
   refine zE 6 (hK77 _ _ ?_)
   refine W.cond_false false (by kernel_rfl) rfl ?_
   refine W.skip ?_
   refine hK76 _ _ ?_
   refine W.seq fun K78 hK78 => ?_
   refine W.sr fun K79 hK79 => ?_
   refine zE 2 (hK79 _ _ ?_)
   refine W.cond_false false (by kernel_rfl) rfl ?_
   refine W.skip ?_
   refine hK78 _ _ ?_
   refine W.seq fun K80 hK80 => ?_
   refine W.sr fun K81 hK81 => ?_
   refine zE 2 (hK81 _ _ ?_)
   refine W.cond_true true (by kernel_rfl) rfl ?_
   refine W.sr fun K82 hK82 => ?_
   refine zE 3 (hK82 _ _ ?_)
   refine W.ret (ret_seq ?_)
   obtain rfl := some_inj hm
   refine ret_of (.tuple #[(.int .i64 0), (.int .i64 2)]) (by kernel_rfl) ⟨_, ⟨rfl, rfl⟩, hs75⟩
  ·
   have h71p : ¬ ((if May gw gi gb then (8 : Int) else 1) = 0) := of_decide_eq_false (bnot_true h71)
   replace hm := ite_no hm h71p
   refine W.sr fun K83 hK83 => ?_
   refine zR 3 ?_
   obtain ⟨r84, h85, hm⟩ := bind_some hm
   replace h85 := some_inj h85
   refine ops_set 5 (v := .int .i64 r84) (Eq.trans (by kernel_rfl) (congrArg (Value.int .i64) h85)) ?_
   refine zD (hK83 _ _ ?_)
   refine W.ret (ret_seq ?_)
   obtain rfl := some_inj hm
   refine ret_of (.tuple #[(.int .i64 0), (.int .i64 r84)]) (by kernel_rfl) ⟨_, ⟨rfl, rfl⟩, hs68⟩

def bgive_J1 (img : List Int) (l : List (Int × Int)) (at_ : Int) (p45 : Int) : Option (Int × List (Int × Int)) :=
 if p45 = 0 then (some ((vwrite img l at_ 0).1, (vwrite img l at_ 0).2)) else (some (p45, l))

def bgive_M (img : List Int) (l : List (Int × Int)) (gw : Int) (gi : Int) (gb : Int) (at_ : Int) (b_ : Int) : Option (Int × List (Int × Int)) :=
 need ((img.length : Int) ≤ 1000000000000) <|
if May gw gi gb ∧ wordsOf gw gi gb ≤ (img.length : Int) then ((agiveb_M img l gb (placeOf 7 gw gi gb 0) b_).bind fun r17 =>
if r17.1 = 0 then ((some ((vwrite img r17.2 at_ 0).1)).bind fun r33 =>
some (r33, (vwrite img r17.2 at_ 0).2)) else (some (r17.1, r17.2))) else (if (if May gw gi gb then (8 : Int) else 1) = 0 then (bgive_J1 img l at_ 2) else (bgive_J1 img l at_ (if May gw gi gb then (8 : Int) else 1)))

theorem bgive_walk {img : List Int} {l : List (Int × Int)} {gw : Int} {gi : Int} {gb : Int} {n_ : Int} {at_ : Int} {b_ : Int} {mb vb : Nat} {r : Int × List (Int × Int)} (B : Nat) (w : World) (hm : bgive_M img l gw gi gb at_ b_ = some r) : Spec Tryz.prog 92 #[(.pointer (some ⟨mb, 0, none⟩)), (.int .i64 at_), (.int .i64 b_)] B w [blk mb (.cells [(.pointer (some ⟨vb, 0, none⟩)), (.int .i64 gw), (.int .i64 gi), (.int .i64 gb), (.int .i64 n_)].toArray 164 (0, 0)), viewA (ptr vb) img l] (fun v H' => v = (.int .i64 r.1) ∧ H' = [blk mb (.cells [(.pointer (some ⟨vb, 0, none⟩)), (.int .i64 gw), (.int .i64 gi), (.int .i64 gb), (.int .i64 n_)].toArray 164 (0, 0)), viewA (ptr vb) img r.2]) := by
 refine spec_W Tryz.func92 rfl fun l0 hs => ?_
 unfold bgive_M at hm
 refine W.sr fun K1 hK1 => ?_
 refine zE 1 (hK1 _ _ ?_)
 refine W.seq fun K2 hK2 => ?_
 have hs3 := hs.drew
 refine W.regionD [(0, 0), (1, 1), (2, 2), (4, 4), (0, 0), (16, 16), (32, 32), (64, 64), (136, 136), (256, 256), (512, 512), (512, 512), (2047, 1024), (8191, 2048)] (fun w_ => St B w l0 w_ [blk mb (.cells [(.pointer (some ⟨vb, 0, none⟩)), (.int .i64 gw), (.int .i64 gi), (.int .i64 gb), (.int .i64 n_)].toArray 164 (0, 0)), viewA (ptr vb) img l]) (by kernel_rfl) hs3 ?_
 refine any_val (v := (.pointer (some ⟨mb, 0, none⟩))) (v' := (.pointer (some ⟨mb, 0, none⟩))) 0 (by kernel_rfl) (fun _ => by kernel_rfl) rfl hs3 ?_
 refine any_val (v := (.pointer (some ⟨mb, 0, none⟩))) (v' := (.pointer (some ⟨mb, 0, none⟩))) 1 (by kernel_rfl) (fun _ => by kernel_rfl) rfl hs3 ?_
 refine any_val (v := (.pointer (some ⟨mb, 0, none⟩))) (v' := (.pointer (some ⟨mb, 0, none⟩))) 2 (by kernel_rfl) (fun _ => by kernel_rfl) rfl hs3 ?_
 refine any_R 3 (by kernel_rfl) (fun _ hS_ => runs_load (ad := ⟨mb, 0, none⟩) (v := (.pointer (some ⟨vb, 0, none⟩))) (by kernel_rfl) (hS_.cellAt 0 rfl rfl)) hs3 ?_
 refine any_val (v := (.pointer (some ⟨mb, 0, none⟩))) (v' := (.pointer (some ⟨mb, 0, none⟩))) 4 (by kernel_rfl) (fun _ => by kernel_rfl) rfl hs3 ?_
 refine any_val (v := (.pointer (some ⟨mb, 0, none⟩))) (v' := (.pointer (some ⟨mb, 0, none⟩))) 5 (by kernel_rfl) (fun _ => by kernel_rfl) rfl hs3 ?_
 refine any_val (v := (.pointer (some ⟨mb, 1, none⟩))) (v' := (.pointer (some ⟨mb, 1, none⟩))) 6 (by kernel_rfl) (fun _ => by kernel_rfl) rfl hs3 ?_
 refine any_R 7 (by kernel_rfl) (fun _ hS_ => runs_loadAgg (ad := ⟨mb, 1, none⟩) (cs := [(.int .i64 gw), (.int .i64 gi), (.int .i64 gb)]) (by kernel_rfl) (cells_sub (hS_.heapAt 0 rfl) rfl)) hs3 ?_
 refine any_step 8 (by kernel_rfl) (by kernel_rfl) ?_
 obtain ⟨h4, hm⟩ := need_some hm
 rcases Bool.eq_false_or_eq_true (decide (May gw gi gb ∧ wordsOf gw gi gb ≤ (img.length : Int))) with h5 | h5
 ·
  obtain ⟨h5p, hm⟩ := iY hm h5
  refine ops_call0 hs3 (by kernel_rfl) (anew_ok (gw := gw) (gi := gi) (gb := gb) (hv := (hs3.entAt 1 rfl viewA_at)) (hz := h4) (hP := h5p) B _) ?_
  rintro _ _ w9 ⟨b6, b7, b8, rfl, rfl⟩ hs10
  have hs11 := St.ap3 hs10
  have hs12 := St.f4 hs11
  have hs13 := St.f4 hs12
  have hs14 := St.tk2 hs13
  refine ops_done (by kernel_rfl) ⟨hs14, ?_⟩
  refine any_val (v := (.tuple #[(.pointer (some ⟨b6, 0, none⟩)), (.int .i64 0)])) (v' := (.tuple #[(.pointer (some ⟨b6, 0, none⟩)), (.int .i64 0)])) 9 (by kernel_rfl) (fun _ => by kernel_rfl) rfl hs14 ?_
  refine any_val (v := (.pointer (some ⟨b6, 0, none⟩))) (v' := (.pointer (some ⟨b6, 0, none⟩))) 10 (by kernel_rfl) (fun _ => by kernel_rfl) rfl hs14 ?_
  refine any_val (v := (.int .i64 0)) (v' := (.int .i64 0)) 11 (by kernel_rfl) (fun _ => by kernel_rfl) rfl hs14 ?_
  refine any_val (v := (.pointer (some ⟨b6, 0, none⟩))) (v' := (.pointer (some ⟨b6, 0, none⟩))) 12 (by kernel_rfl) (fun _ => by kernel_rfl) rfl hs14 ?_
  refine any_val (v := (.int .i64 0)) (v' := (.int .i64 0)) 13 (by kernel_rfl) (fun _ => by kernel_rfl) rfl hs14 ?_
  refine any_done (by kernel_rfl) ?_
  refine hK2 _ _ ?_
  refine W.seq fun K15 hK15 => ?_
  refine W.sr fun K16 hK16 => ?_
  refine zE 2 (hK16 _ _ ?_)
  refine W.cond_true true (by kernel_rfl) rfl ?_
  refine W.region ?_
  refine zR 2 ?_
  obtain ⟨r17, h18, hm⟩ := bind_some hm
  have hs19 := St.f4 hs11
  have hs20 := St.f3 hs19
  have hs21 := St.f3 hs20
  have hs22 := St.f3 hs21
  refine ops_call4 hs22 (by kernel_rfl) (agiveb_walk (ab := b6) (ib := b7) (bb := b8) (vb := vb) (img := img) (l := l) (gw := gw) (gi := gi) (gb := gb) (ia := (placeOf 6 gw gi gb 0)) (ba := (placeOf 7 gw gi gb 0)) (n_ := b_) (hm := h18) B _) ?_
  rintro _ _ w23 ⟨rfl, rfl⟩ hs24
  have hs25 := St.ap4 hs24
  refine zE 1 (hK15 _ _ ?_)
  refine W.seq fun K26 hK26 => ?_
  refine W.sr fun K27 hK27 => ?_
  refine zE 2 (hK27 _ _ ?_)
  refine W.cond (decide (r17.1 = 0)) (by kernel_rfl) (fun h28 => ?_) (fun h28 => ?_)
  ·
   obtain ⟨h28p, hm⟩ := iY hm h28
   refine W.region ?_
   refine zR 3 ?_
   refine zL ⟨mb, 0, none⟩ (.pointer (some ⟨vb, 0, none⟩)) (hs25.cellAt 4 rfl rfl) ?_
   refine zR 1 ?_
   have hs29 := St.f3 hs25
   refine zC11 hs29 (sset_spec (b := vb) (img := img) (l := r17.2) (at_ := at_) (x_ := 0) B _) fun w30 hs32 => ?_
   refine zR 1 ?_
   obtain ⟨r33, h34, hm⟩ := bind_some hm
   replace h34 := some_inj h34
   refine ops_set 8 (v := .int .i64 r33) (Eq.trans (by kernel_rfl) (congrArg (Value.int .i64) h34)) ?_
   refine zD (hK26 _ _ ?_)
   refine W.sr fun K35 hK35 => ?_
   refine zE 2 (hK35 _ _ ?_)
   refine W.ret ?_
   obtain rfl := some_inj hm
   have hs36 := St.f4 hs32
   have hs37 := St.tk2 hs36
   refine ret_of (.int .i64 r33) (by kernel_rfl) ⟨_, ⟨rfl, rfl⟩, hs37⟩
  ·
   obtain ⟨h28p, hm⟩ := iN hm h28
   refine W.skip ?_
   refine hK26 _ _ ?_
   refine W.sr fun K38 hK38 => ?_
   refine zE 2 (hK38 _ _ ?_)
   refine W.ret ?_
   obtain rfl := some_inj hm
   have hs39 := St.f3 hs25
   have hs40 := St.f4 hs39
   have hs41 := St.tk2 hs40
   refine ret_of (.int .i64 r17.1) (by kernel_rfl) ⟨_, ⟨rfl, rfl⟩, hs41⟩
 ·
  obtain ⟨h5p, hm⟩ := iN hm h5
  refine zC00 hs3 (anew_err (gw := gw) (gi := gi) (gb := gb) (hv := (hs3.entAt 1 rfl viewA_at)) (hz := h4) (hN := h5p) B _) fun w42 hs44 => ?_
  refine ops_done (by kernel_rfl) ⟨hs44, ?_⟩
  refine any_val (v := (.tuple #[(.pointer none), (.int .i64 (if May gw gi gb then (8 : Int) else 1))])) (v' := (.tuple #[(.pointer none), (.int .i64 (if May gw gi gb then (8 : Int) else 1))])) 9 (by kernel_rfl) (fun _ => by kernel_rfl) rfl hs44 ?_
  refine any_val (v := (.pointer none)) (v' := (.pointer none)) 10 (by kernel_rfl) (fun _ => by kernel_rfl) rfl hs44 ?_
  refine any_val (v := (.int .i64 (if May gw gi gb then (8 : Int) else 1))) (v' := (.int .i64 (if May gw gi gb then (8 : Int) else 1))) 11 (by kernel_rfl) (fun _ => by kernel_rfl) rfl hs44 ?_
  refine any_val (v := (.pointer none)) (v' := (.pointer none)) 12 (by kernel_rfl) (fun _ => by kernel_rfl) rfl hs44 ?_
  refine any_val (v := (.int .i64 (if May gw gi gb then (8 : Int) else 1))) (v' := (.int .i64 (if May gw gi gb then (8 : Int) else 1))) 13 (by kernel_rfl) (fun _ => by kernel_rfl) rfl hs44 ?_
  refine any_done (by kernel_rfl) ?_
  refine hK2 _ _ ?_
  refine W.seq_join (fun s_ w_ => ∃ (p45 : Int), (∃ us, s_ = slots 35 [(0, (.pointer (some ⟨mb, 0, none⟩))), (1, (.int .i64 at_)), (8, (.int .i64 p45))] us) ∧ St B w l0 w_ [viewA (ptr vb) img l, blk mb (.cells [(.pointer (some ⟨vb, 0, none⟩)), (.int .i64 gw), (.int .i64 gi), (.int .i64 gb), (.int .i64 n_)].toArray 164 (0, 0))] ∧ bgive_J1 img l at_ p45 = some r) ?_ ?_
  ·
   rintro _ w46 ⟨p45, ⟨us, rfl⟩, hs47, hm⟩
   unfold bgive_J1 at hm
   refine W.seq fun K48 hK48 => ?_
   refine W.sr fun K49 hK49 => ?_
   refine zE 2 (hK49 _ _ ?_)
   refine W.cond (decide (p45 = 0)) (by kernel_rfl) (fun h50 => ?_) (fun h50 => ?_)
   ·
    obtain ⟨h50p, hm⟩ := iY hm h50
    refine W.region ?_
    refine zR 3 ?_
    refine zL ⟨mb, 0, none⟩ (.pointer (some ⟨vb, 0, none⟩)) (hs47.cellAt 1 rfl rfl) ?_
    refine zR 1 ?_
    refine zC11 hs47 (sset_spec (b := vb) (img := img) (l := l) (at_ := at_) (x_ := 0) B _) fun w51 hs53 => ?_
    refine zE 1 (hK48 _ _ ?_)
    refine W.sr fun K54 hK54 => ?_
    refine zE 2 (hK54 _ _ ?_)
    refine W.ret ?_
    obtain rfl := some_inj hm
    have hs55 := St.f1 hs53
    refine ret_of (.int .i64 ((vwrite img l at_ 0).1)) (by kernel_rfl) ⟨_, ⟨rfl, rfl⟩, hs55⟩
   ·
    obtain ⟨h50p, hm⟩ := iN hm h50
    refine W.skip ?_
    refine hK48 _ _ ?_
    refine W.sr fun K56 hK56 => ?_
    refine zE 2 (hK56 _ _ ?_)
    refine W.ret ?_
    obtain rfl := some_inj hm
    have hs57 := St.f1 hs47
    refine ret_of (.int .i64 p45) (by kernel_rfl) ⟨_, ⟨rfl, rfl⟩, hs57⟩
  ·
   refine W.sr fun K58 hK58 => ?_
   refine zE 2 (hK58 _ _ ?_)
   refine W.cond (decide ((if May gw gi gb then (8 : Int) else 1) = 0)) (by kernel_rfl) (fun h59 => ?_) (fun h59 => ?_)
   ·
    obtain ⟨h59p, hm⟩ := iY hm h59
    refine W.region ?_
    refine zR 2 ?_
    refine zC00 hs44 (agiveb_nil (n_ := b_) B _) fun w60 hs62 => ?_
    refine zE 1 ?_
    have hs63 := St.f1 hs62
    exact ⟨2, slots_intro _ (by kernel_rfl), hs63, hm⟩
   ·
    obtain ⟨h59p, hm⟩ := iN hm h59
    refine W.skip ?_
    have hs64 := St.f1 hs44
    exact ⟨(if May gw gi gb then (8 : Int) else 1), slots_intro _ (by kernel_rfl), hs64, hm⟩

end Go.Proofs.YtmmclabkkigiaaaGreatDoor
