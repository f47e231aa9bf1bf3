/- Texts of one kind, one behind the other: A7e, A7w, P7w. -/
import Derived.Test.YthimamnblklkbaaDoorGF
set_option linter.unusedVariables false
set_option linter.unusedSimpArgs false
/- What the code computes, by a program. -/
namespace Go.Proofs.YthimamnblklkbaaDoor
open Go Go.RowKit
set_option linter.unusedSimpArgs false
set_option linter.unusedVariables false

def atakei_M (img : List Int) (l : List (Int × Int)) (gi : Int) (ia : Int) : Option (Int × Int × List (Int × Int)) :=
  (atake0_M img l ia gi).bind fun r5 =>
some (r5.1, r5.2.1, r5.2.2)

set_option maxRecDepth 20000 in
set_option linter.unusedVariables false in
theorem atakei_walk {img : List Int} {l : List (Int × Int)} {gw : Int} {gi : Int} {gb : Int} {ia : Int} {ba : Int} {ab ib bb vb : Nat} {r : Int × Int × List (Int × Int)} (B : Nat) (w : World) (hG : 0 < B) (hT : CellsAt (some ⟨0, 0, none⟩) tab8 w) (hm : atakei_M img l gi ia = some r) : Spec Tryd.prog 57 #[(.pointer (some ⟨ab, 0, none⟩))] B w [blk ab (.cells [(.pointer (some ⟨vb, 0, none⟩)), (.int .i64 gw), (.int .i64 gi), (.int .i64 gb), (.pointer (some ⟨ib, 0, none⟩)), (.int .i64 gi), (.pointer (some ⟨bb, 0, none⟩)), (.int .i64 gb)].toArray 188 (0, 0)), blk ib (.cells [(.pointer (some ⟨vb, 0, none⟩)), (.int .i64 ia), (.int .i64 gi)].toArray 151 (0, 0)), blk bb (.cells [(.pointer (some ⟨vb, 0, none⟩)), (.int .i64 ba), (.int .i64 gb)].toArray 151 (0, 0)), viewA (ptr vb) img l] (fun v H' => v = .tuple #[.int .i64 r.1, .int .i64 r.2.1] ∧ H' = [blk ab (.cells [(.pointer (some ⟨vb, 0, none⟩)), (.int .i64 gw), (.int .i64 gi), (.int .i64 gb), (.pointer (some ⟨ib, 0, none⟩)), (.int .i64 gi), (.pointer (some ⟨bb, 0, none⟩)), (.int .i64 gb)].toArray 188 (0, 0)), blk ib (.cells [(.pointer (some ⟨vb, 0, none⟩)), (.int .i64 ia), (.int .i64 gi)].toArray 151 (0, 0)), blk bb (.cells [(.pointer (some ⟨vb, 0, none⟩)), (.int .i64 ba), (.int .i64 gb)].toArray 151 (0, 0)), viewA (ptr vb) img r.2.2]) := by
  refine spec_W Tryd.func57 rfl fun l0 hs => ?_
  unfold atakei_M at hm
  refine W.seq fun K1 hK1 => ?_
  refine W.region ?_
  refine ops_run 2 (by kernel_rfl) ?_
  refine ops_done (by kernel_rfl) ?_
  refine hK1 _ _ ?_
  clear hK1
  refine W.seq fun K2 hK2 => ?_
  refine W.seq fun K3 hK3 => ?_
  refine W.region ?_
  refine ops_run 2 (by kernel_rfl) ?_
  refine ops_done (by kernel_rfl) ?_
  refine hK3 _ _ ?_
  clear hK3
  refine W.cond_false false (by kernel_rfl) rfl ?_
  refine W.skip ?_
  refine hK2 _ _ ?_
  clear hK2
  refine W.seq fun K4 hK4 => ?_
  refine W.region ?_
  refine ops_run 4 (by kernel_rfl) ?_
  refine ops_R (runs_loadAgg (ad := ⟨ab, 4, none⟩) (cs := [(.pointer (some ⟨ib, 0, none⟩)), (.int .i64 gi)]) (by kernel_rfl) (cells_sub (hs.heapAt 0 rfl) rfl)) ?_
  obtain ⟨r5, h6, hm⟩ := bind_some hm
  have hs7 := St.f3 hs
  have hs8 := St.f2 hs7
  have hs9 := St.f2 hs8
  refine ops_call3 hs9 (by kernel_rfl) (atake0_walk (ab := ab) (ib := ib) (bb := bb) (vb := vb) (mb := ib) (img := img) (l := l) (gw := gw) (gi := gi) (gb := gb) (at_ := ia) (many := gi) (pm := gi) (hG := hG) (hT := (hs.oldCellsB hG hT)) (hm := h6) B _) ?_
  rintro _ _ w10 ⟨rfl, rfl⟩ hs11
  have hs12 := St.ap3 hs11
  refine ops_run 4 (by kernel_rfl) ?_
  refine ops_done (by kernel_rfl) ?_
  refine hK4 _ _ ?_
  clear hK4
  refine W.ret ?_
  obtain rfl := some_inj hm
  have hs13 := St.f2 hs12
  have hs14 := St.f3 hs13
  have hs15 := St.f3 hs14
  have hs16 := St.f3 hs15
  refine ret_of (.tuple #[(.int .i64 r5.1), (.int .i64 r5.2.1)]) (by kernel_rfl) ⟨_, ⟨rfl, rfl⟩, hs16⟩

def atakeb_M (img : List Int) (l : List (Int × Int)) (gw : Int) (gi : Int) (gb : Int) (ba : Int) : Option (Int × Int × List (Int × Int)) :=
  (atake1_M img l gw gi gb ba gb).bind fun r14 =>
some (r14.1, r14.2.1, r14.2.2)

set_option maxRecDepth 20000 in
set_option linter.unusedVariables false in
theorem atakeb_walk {img : List Int} {l : List (Int × Int)} {gw : Int} {gi : Int} {gb : Int} {ia : Int} {ba : Int} {ab ib bb vb : Nat} {r : Int × Int × List (Int × Int)} (B : Nat) (w : World) (hG : 0 < B) (hT : CellsAt (some ⟨0, 0, none⟩) tab8 w) (hm : atakeb_M img l gw gi gb ba = some r) : Spec Tryd.prog 58 #[(.pointer (some ⟨ab, 0, none⟩))] B w [blk ab (.cells [(.pointer (some ⟨vb, 0, none⟩)), (.int .i64 gw), (.int .i64 gi), (.int .i64 gb), (.pointer (some ⟨ib, 0, none⟩)), (.int .i64 gi), (.pointer (some ⟨bb, 0, none⟩)), (.int .i64 gb)].toArray 188 (0, 0)), blk ib (.cells [(.pointer (some ⟨vb, 0, none⟩)), (.int .i64 ia), (.int .i64 gi)].toArray 151 (0, 0)), blk bb (.cells [(.pointer (some ⟨vb, 0, none⟩)), (.int .i64 ba), (.int .i64 gb)].toArray 151 (0, 0)), viewA (ptr vb) img l] (fun v H' => v = .tuple #[.int .i64 r.1, .int .i64 r.2.1] ∧ H' = [blk ab (.cells [(.pointer (some ⟨vb, 0, none⟩)), (.int .i64 gw), (.int .i64 gi), (.int .i64 gb), (.pointer (some ⟨ib, 0, none⟩)), (.int .i64 gi), (.pointer (some ⟨bb, 0, none⟩)), (.int .i64 gb)].toArray 188 (0, 0)), blk ib (.cells [(.pointer (some ⟨vb, 0, none⟩)), (.int .i64 ia), (.int .i64 gi)].toArray 151 (0, 0)), blk bb (.cells [(.pointer (some ⟨vb, 0, none⟩)), (.int .i64 ba), (.int .i64 gb)].toArray 151 (0, 0)), viewA (ptr vb) img r.2.2]) := by
  refine spec_W Tryd.func58 rfl fun l0 hs => ?_
  unfold atakeb_M at hm
  refine W.seq fun K1 hK1 => ?_
  refine W.region ?_
  refine ops_new (fun b => .pointer (some ⟨b, 0, none⟩)) (.cells [(.pointer (some ⟨ab, 0, none⟩))].toArray 92 (0, 0)) hs (by kernel_rfl) (fun b4 w2 hs3 => ?_)
  refine ops_run 2 (by kernel_rfl) ?_
  refine ops_done (by kernel_rfl) ?_
  refine hK1 _ _ ?_
  clear hK1
  refine W.seq fun K5 hK5 => ?_
  refine W.seq fun K6 hK6 => ?_
  refine W.region ?_
  refine ops_R (runs_load (ad := ⟨b4, 0, none⟩) (v := (.pointer (some ⟨ab, 0, none⟩))) (by kernel_rfl) (hs3.cellAt 0 rfl rfl)) ?_
  refine ops_run 1 (by kernel_rfl) ?_
  refine ops_done (by kernel_rfl) ?_
  refine hK6 _ _ ?_
  clear hK6
  refine W.cond_false false (by kernel_rfl) rfl ?_
  refine W.skip ?_
  refine hK5 _ _ ?_
  clear hK5
  refine W.seq fun K7 hK7 => ?_
  have hs8 := hs3.drew
  have hs9 := St.f3 hs8
  have hs10 := St.f3 hs9
  have hs11 := St.f3 hs10
  have hs12 := St.f3 hs11
  have hs13 := St.tk4 hs12
  refine W.regionD [(0, 0), (0, 0), (2, 2), (4, 4), (8, 8), (0, 0), (49, 49), (64, 64), (64, 64), (511, 128), (1023, 256)] (fun w_ => St B w l0 w_ [blk b4 (.cells [(.pointer (some ⟨ab, 0, none⟩))].toArray 92 (0, 0)), blk ab (.cells [(.pointer (some ⟨vb, 0, none⟩)), (.int .i64 gw), (.int .i64 gi), (.int .i64 gb), (.pointer (some ⟨ib, 0, none⟩)), (.int .i64 gi), (.pointer (some ⟨bb, 0, none⟩)), (.int .i64 gb)].toArray 188 (0, 0)), blk ib (.cells [(.pointer (some ⟨vb, 0, none⟩)), (.int .i64 ia), (.int .i64 gi)].toArray 151 (0, 0)), blk bb (.cells [(.pointer (some ⟨vb, 0, none⟩)), (.int .i64 ba), (.int .i64 gb)].toArray 151 (0, 0))]) (by kernel_rfl) hs13 ?_
  refine any_R 0 (by kernel_rfl) (fun _ hS_ => runs_load (ad := ⟨b4, 0, none⟩) (v := (.pointer (some ⟨ab, 0, none⟩))) (by kernel_rfl) (hS_.cellAt 0 rfl rfl)) hs13 ?_
  refine any_R 1 (by kernel_rfl) (fun _ hS_ => runs_load (ad := ⟨b4, 0, none⟩) (v := (.pointer (some ⟨ab, 0, none⟩))) (by kernel_rfl) (hS_.cellAt 0 rfl rfl)) hs13 ?_
  refine any_val (v := (.pointer (some ⟨ab, 0, none⟩))) (v' := (.pointer (some ⟨ab, 0, none⟩))) 2 (by kernel_rfl) (fun _ => by kernel_rfl) rfl hs13 ?_
  refine any_val (v := (.pointer (some ⟨ab, 6, none⟩))) (v' := (.pointer (some ⟨ab, 6, none⟩))) 3 (by kernel_rfl) (fun _ => by kernel_rfl) rfl hs13 ?_
  refine any_R 4 (by kernel_rfl) (fun _ hS_ => runs_loadAgg (ad := ⟨ab, 6, none⟩) (cs := [(.pointer (some ⟨bb, 0, none⟩)), (.int .i64 gb)]) (by kernel_rfl) (cells_sub (hS_.heapAt 1 rfl) rfl)) hs13 ?_
  refine any_val (v := (.func (.func 126) #[] #[(.pointer (some ⟨b4, 0, none⟩))])) (v' := (.func (.func 126) #[] #[(.pointer (some ⟨b4, 0, none⟩))])) 5 (by kernel_rfl) (fun _ => by kernel_rfl) rfl hs13 ?_
  refine any_step 6 (by kernel_rfl) (by kernel_rfl) ?_
  obtain ⟨r14, h15, hm⟩ := bind_some hm
  have hs16 := St.f4 hs8
  have hs17 := St.f1 hs16
  have hs18 := St.f4 hs17
  have hs19 := St.f3 hs18
  refine ops_call4 hs19 (by kernel_rfl) (atake1_walk (ab := ab) (ib := ib) (bb := bb) (vb := vb) (mb := bb) (img := img) (l := l) (gw := gw) (gi := gi) (gb := gb) (at_ := ba) (many := gb) (pm := gb) (cb := b4) (hG := hG) (hT := (hs8.oldCellsB hG hT)) (hm := h15) B _) ?_
  rintro _ _ w20 ⟨rfl, rfl⟩ hs21
  have hs22 := St.ap4 hs21
  have hs23 := St.f1 hs22
  have hs24 := St.f4 hs23
  have hs25 := St.f2 hs24
  have hs26 := St.f3 hs25
  have hs27 := St.tk4 hs26
  refine ops_done (by kernel_rfl) ⟨hs27, ?_⟩
  refine any_val (v := (.int .i64 r14.1)) (v' := (.int .i64 r14.1)) 7 (by kernel_rfl) (fun _ => by kernel_rfl) rfl hs27 ?_
  refine any_val (v := (.int .i64 r14.2.1)) (v' := (.int .i64 r14.2.1)) 8 (by kernel_rfl) (fun _ => by kernel_rfl) rfl hs27 ?_
  refine any_val (v := (.int .i64 r14.1)) (v' := (.int .i64 r14.1)) 9 (by kernel_rfl) (fun _ => by kernel_rfl) rfl hs27 ?_
  refine any_val (v := (.int .i64 r14.2.1)) (v' := (.int .i64 r14.2.1)) 10 (by kernel_rfl) (fun _ => by kernel_rfl) rfl hs27 ?_
  refine any_done (by kernel_rfl) ?_
  refine hK7 _ _ ?_
  clear hK7
  refine W.ret ?_
  obtain rfl := some_inj hm
  have hs28 := St.f3 hs22
  have hs29 := St.f2 hs28
  have hs30 := St.f4 hs29
  have hs31 := St.f3 hs30
  have hs32 := St.tk4 hs31
  refine ret_of (.tuple #[(.int .i64 r14.1), (.int .i64 r14.2.1)]) (by kernel_rfl) ⟨_, ⟨rfl, rfl⟩, hs32⟩

def agivei_M (img : List Int) (l : List (Int × Int)) (gi : Int) (ia : Int) (n_ : Int) : Option (Int × List (Int × Int)) :=
  (pgive_M img l ia gi gi n_).bind fun r5 =>
some (r5.1, r5.2)

set_option maxRecDepth 20000 in
set_option linter.unusedVariables false in
theorem agivei_walk {img : List Int} {l : List (Int × Int)} {gw : Int} {gi : Int} {gb : Int} {ia : Int} {ba : Int} {n_ : Int} {ab ib bb vb : Nat} {r : Int × List (Int × Int)} (B : Nat) (w : World) (hm : agivei_M img l gi ia n_ = some r) : Spec Tryd.prog 59 #[(.pointer (some ⟨ab, 0, none⟩)), (.int .i64 n_)] B w [blk ab (.cells [(.pointer (some ⟨vb, 0, none⟩)), (.int .i64 gw), (.int .i64 gi), (.int .i64 gb), (.pointer (some ⟨ib, 0, none⟩)), (.int .i64 gi), (.pointer (some ⟨bb, 0, none⟩)), (.int .i64 gb)].toArray 188 (0, 0)), blk ib (.cells [(.pointer (some ⟨vb, 0, none⟩)), (.int .i64 ia), (.int .i64 gi)].toArray 151 (0, 0)), blk bb (.cells [(.pointer (some ⟨vb, 0, none⟩)), (.int .i64 ba), (.int .i64 gb)].toArray 151 (0, 0)), viewA (ptr vb) img l] (fun v H' => v = .int .i64 r.1 ∧ H' = [blk ab (.cells [(.pointer (some ⟨vb, 0, none⟩)), (.int .i64 gw), (.int .i64 gi), (.int .i64 gb), (.pointer (some ⟨ib, 0, none⟩)), (.int .i64 gi), (.pointer (some ⟨bb, 0, none⟩)), (.int .i64 gb)].toArray 188 (0, 0)), blk ib (.cells [(.pointer (some ⟨vb, 0, none⟩)), (.int .i64 ia), (.int .i64 gi)].toArray 151 (0, 0)), blk bb (.cells [(.pointer (some ⟨vb, 0, none⟩)), (.int .i64 ba), (.int .i64 gb)].toArray 151 (0, 0)), viewA (ptr vb) img r.2]) := by
  refine spec_W Tryd.func59 rfl fun l0 hs => ?_
  unfold agivei_M at hm
  refine W.seq fun K1 hK1 => ?_
  refine W.region ?_
  refine ops_run 1 (by kernel_rfl) ?_
  refine ops_done (by kernel_rfl) ?_
  refine hK1 _ _ ?_
  clear hK1
  refine W.seq fun K2 hK2 => ?_
  refine W.seq fun K3 hK3 => ?_
  refine W.region ?_
  refine ops_run 2 (by kernel_rfl) ?_
  refine ops_done (by kernel_rfl) ?_
  refine hK3 _ _ ?_
  clear hK3
  refine W.cond_false false (by kernel_rfl) rfl ?_
  refine W.skip ?_
  refine hK2 _ _ ?_
  clear hK2
  refine W.seq fun K4 hK4 => ?_
  refine W.region ?_
  refine ops_run 3 (by kernel_rfl) ?_
  refine ops_R (runs_loadAgg (ad := ⟨ab, 4, none⟩) (cs := [(.pointer (some ⟨ib, 0, none⟩)), (.int .i64 gi)]) (by kernel_rfl) (cells_sub (hs.heapAt 0 rfl) rfl)) ?_
  refine ops_run 1 (by kernel_rfl) ?_
  obtain ⟨r5, h6, hm⟩ := bind_some hm
  have hs7 := St.f3 hs
  have hs8 := St.f2 hs7
  refine ops_call2 hs8 (by kernel_rfl) (pgive_walk (hm := h6) B _) ?_
  rintro _ _ w9 ⟨rfl, rfl⟩ hs10
  have hs11 := St.ap2 hs10
  refine ops_run 1 (by kernel_rfl) ?_
  refine ops_done (by kernel_rfl) ?_
  refine hK4 _ _ ?_
  clear hK4
  refine W.ret ?_
  obtain rfl := some_inj hm
  have hs12 := St.f1 hs11
  have hs13 := St.f3 hs12
  have hs14 := St.f2 hs13
  have hs15 := St.f3 hs14
  refine ret_of (.int .i64 r5.1) (by kernel_rfl) ⟨_, ⟨rfl, rfl⟩, hs15⟩

def agiveb_M (img : List Int) (l : List (Int × Int)) (gb : Int) (ba : Int) (n_ : Int) : Option (Int × List (Int × Int)) :=
  (pgive_M img l ba gb gb n_).bind fun r5 =>
some (r5.1, r5.2)

set_option maxRecDepth 20000 in
set_option linter.unusedVariables false in
theorem agiveb_walk {img : List Int} {l : List (Int × Int)} {gw : Int} {gi : Int} {gb : Int} {ia : Int} {ba : Int} {n_ : Int} {ab ib bb vb : Nat} {r : Int × List (Int × Int)} (B : Nat) (w : World) (hm : agiveb_M img l gb ba n_ = some r) : Spec Tryd.prog 60 #[(.pointer (some ⟨ab, 0, none⟩)), (.int .i64 n_)] B w [blk ab (.cells [(.pointer (some ⟨vb, 0, none⟩)), (.int .i64 gw), (.int .i64 gi), (.int .i64 gb), (.pointer (some ⟨ib, 0, none⟩)), (.int .i64 gi), (.pointer (some ⟨bb, 0, none⟩)), (.int .i64 gb)].toArray 188 (0, 0)), blk ib (.cells [(.pointer (some ⟨vb, 0, none⟩)), (.int .i64 ia), (.int .i64 gi)].toArray 151 (0, 0)), blk bb (.cells [(.pointer (some ⟨vb, 0, none⟩)), (.int .i64 ba), (.int .i64 gb)].toArray 151 (0, 0)), viewA (ptr vb) img l] (fun v H' => v = .int .i64 r.1 ∧ H' = [blk ab (.cells [(.pointer (some ⟨vb, 0, none⟩)), (.int .i64 gw), (.int .i64 gi), (.int .i64 gb), (.pointer (some ⟨ib, 0, none⟩)), (.int .i64 gi), (.pointer (some ⟨bb, 0, none⟩)), (.int .i64 gb)].toArray 188 (0, 0)), blk ib (.cells [(.pointer (some ⟨vb, 0, none⟩)), (.int .i64 ia), (.int .i64 gi)].toArray 151 (0, 0)), blk bb (.cells [(.pointer (some ⟨vb, 0, none⟩)), (.int .i64 ba), (.int .i64 gb)].toArray 151 (0, 0)), viewA (ptr vb) img r.2]) := by
  refine spec_W Tryd.func60 rfl fun l0 hs => ?_
  unfold agiveb_M at hm
  refine W.seq fun K1 hK1 => ?_
  refine W.region ?_
  refine ops_run 1 (by kernel_rfl) ?_
  refine ops_done (by kernel_rfl) ?_
  refine hK1 _ _ ?_
  clear hK1
  refine W.seq fun K2 hK2 => ?_
  refine W.seq fun K3 hK3 => ?_
  refine W.region ?_
  refine ops_run 2 (by kernel_rfl) ?_
  refine ops_done (by kernel_rfl) ?_
  refine hK3 _ _ ?_
  clear hK3
  refine W.cond_false false (by kernel_rfl) rfl ?_
  refine W.skip ?_
  refine hK2 _ _ ?_
  clear hK2
  refine W.seq fun K4 hK4 => ?_
  refine W.region ?_
  refine ops_run 3 (by kernel_rfl) ?_
  refine ops_R (runs_loadAgg (ad := ⟨ab, 6, none⟩) (cs := [(.pointer (some ⟨bb, 0, none⟩)), (.int .i64 gb)]) (by kernel_rfl) (cells_sub (hs.heapAt 0 rfl) rfl)) ?_
  refine ops_run 1 (by kernel_rfl) ?_
  obtain ⟨r5, h6, hm⟩ := bind_some hm
  have hs7 := St.f3 hs
  have hs8 := St.f3 hs7
  refine ops_call2 hs8 (by kernel_rfl) (pgive_walk (hm := h6) B _) ?_
  rintro _ _ w9 ⟨rfl, rfl⟩ hs10
  have hs11 := St.ap2 hs10
  refine ops_run 1 (by kernel_rfl) ?_
  refine ops_done (by kernel_rfl) ?_
  refine hK4 _ _ ?_
  clear hK4
  refine W.ret ?_
  obtain rfl := some_inj hm
  have hs12 := St.f1 hs11
  have hs13 := St.f1 hs12
  have hs14 := St.f3 hs13
  have hs15 := St.f3 hs14
  refine ret_of (.int .i64 r5.1) (by kernel_rfl) ⟨_, ⟨rfl, rfl⟩, hs15⟩

def afree_M (img : List Int) (l : List (Int × Int)) (gi : Int) (gb : Int) (ia : Int) (ba : Int) : Option (Int × Int) :=
  (pfree_M img l ia gi gi).bind fun r6 =>
(pfree_M img l ba gb gb).bind fun r11 =>
some (r6, r11)

set_option maxRecDepth 20000 in
set_option linter.unusedVariables false in
theorem afree_walk {img : List Int} {l : List (Int × Int)} {gw : Int} {gi : Int} {gb : Int} {ia : Int} {ba : Int} {ab ib bb vb : Nat} {r : Int × Int} (B : Nat) (w : World) (hab : w.heap[ab]? = some (.cells [(.pointer (some ⟨vb, 0, none⟩)), (.int .i64 gw), (.int .i64 gi), (.int .i64 gb), (.pointer (some ⟨ib, 0, none⟩)), (.int .i64 gi), (.pointer (some ⟨bb, 0, none⟩)), (.int .i64 gb)].toArray 188 (0, 0))) (hib : w.heap[ib]? = some (.cells [(.pointer (some ⟨vb, 0, none⟩)), (.int .i64 ia), (.int .i64 gi)].toArray 151 (0, 0))) (hbb : w.heap[bb]? = some (.cells [(.pointer (some ⟨vb, 0, none⟩)), (.int .i64 ba), (.int .i64 gb)].toArray 151 (0, 0))) (hv : ViewAt (ptr vb) img l w) (hm : afree_M img l gi gb ia ba = some r) : Spec Tryd.prog 56 #[(.pointer (some ⟨ab, 0, none⟩))] B w [] (fun v H' => v = .tuple #[.int .i64 r.1, .int .i64 r.2] ∧ H' = []) := by
  refine spec_Q Tryd.func56 rfl fun hs => ?_
  unfold afree_M at hm
  refine W.seq fun K1 hK1 => ?_
  refine W.region ?_
  refine ops_run 2 (by kernel_rfl) ?_
  refine ops_done (by kernel_rfl) ?_
  refine hK1 _ _ ?_
  clear hK1
  refine W.seq fun K2 hK2 => ?_
  refine W.seq fun K3 hK3 => ?_
  refine W.region ?_
  refine ops_run 2 (by kernel_rfl) ?_
  refine ops_done (by kernel_rfl) ?_
  refine hK3 _ _ ?_
  clear hK3
  refine W.cond_false false (by kernel_rfl) rfl ?_
  refine W.skip ?_
  refine hK2 _ _ ?_
  clear hK2
  refine W.seq fun K4 hK4 => ?_
  have hs5 := hs.drew
  refine W.regionD [(0, 0), (1, 1), (2, 2), (4, 4), (8, 8), (0, 0), (32, 32), (64, 64), (128, 128), (272, 256), (543, 16), (2047, 512)] (fun w_ => St B w [] w_ []) (by kernel_rfl) hs5 ?_
  refine any_val (v := (.pointer (some ⟨ab, 0, none⟩))) (v' := (.pointer (some ⟨ab, 0, none⟩))) 0 (by kernel_rfl) (fun _ => by kernel_rfl) rfl hs5 ?_
  refine any_val (v := (.pointer (some ⟨ab, 0, none⟩))) (v' := (.pointer (some ⟨ab, 0, none⟩))) 1 (by kernel_rfl) (fun _ => by kernel_rfl) rfl hs5 ?_
  refine any_val (v := (.pointer (some ⟨ab, 4, none⟩))) (v' := (.pointer (some ⟨ab, 4, none⟩))) 2 (by kernel_rfl) (fun _ => by kernel_rfl) rfl hs5 ?_
  refine any_R 3 (by kernel_rfl) (fun _ hS_ => runs_loadAgg (ad := ⟨ab, 4, none⟩) (cs := [(.pointer (some ⟨ib, 0, none⟩)), (.int .i64 gi)]) (by kernel_rfl) (cells_sub (hS_.old hab) rfl)) hs5 ?_
  refine any_val (v := (.pointer (some ⟨ab, 0, none⟩))) (v' := (.pointer (some ⟨ab, 0, none⟩))) 5 (by kernel_rfl) (fun _ => by kernel_rfl) rfl hs5 ?_
  refine any_val (v := (.pointer (some ⟨ab, 0, none⟩))) (v' := (.pointer (some ⟨ab, 0, none⟩))) 6 (by kernel_rfl) (fun _ => by kernel_rfl) rfl hs5 ?_
  refine any_val (v := (.pointer (some ⟨ab, 6, none⟩))) (v' := (.pointer (some ⟨ab, 6, none⟩))) 7 (by kernel_rfl) (fun _ => by kernel_rfl) rfl hs5 ?_
  refine any_R 8 (by kernel_rfl) (fun _ hS_ => runs_loadAgg (ad := ⟨ab, 6, none⟩) (cs := [(.pointer (some ⟨bb, 0, none⟩)), (.int .i64 gb)]) (by kernel_rfl) (cells_sub (hS_.old hab) rfl)) hs5 ?_
  refine any_step 4 (by kernel_rfl) (by kernel_rfl) ?_
  obtain ⟨r6, h7, hm⟩ := bind_some hm
  refine ops_call0 hs5 (by kernel_rfl) (pfree_walk (hmb := (hs5.old hib)) (hv := (viewAt_old hs5 hv)) (hm := h7) B _) ?_
  rintro _ _ w8 ⟨rfl, rfl⟩ hs9
  have hs10 := St.ap0 hs9
  refine ops_done (by kernel_rfl) ⟨hs10, ?_⟩
  refine any_step 9 (by kernel_rfl) (by kernel_rfl) ?_
  obtain ⟨r11, h12, hm⟩ := bind_some hm
  refine ops_call0 hs10 (by kernel_rfl) (pfree_walk (hmb := (hs10.old hbb)) (hv := (viewAt_old hs10 hv)) (hm := h12) B _) ?_
  rintro _ _ w13 ⟨rfl, rfl⟩ hs14
  have hs15 := St.ap0 hs14
  refine ops_done (by kernel_rfl) ⟨hs15, ?_⟩
  refine any_val (v := (.int .i64 r6)) (v' := (.int .i64 r6)) 10 (by kernel_rfl) (fun _ => by kernel_rfl) rfl hs15 ?_
  refine any_val (v := (.int .i64 r11)) (v' := (.int .i64 r11)) 11 (by kernel_rfl) (fun _ => by kernel_rfl) rfl hs15 ?_
  refine any_done (by kernel_rfl) ?_
  refine hK4 _ _ ?_
  clear hK4
  refine W.ret ?_
  obtain rfl := some_inj hm
  refine ret_of (.tuple #[(.int .i64 r6), (.int .i64 r11)]) (by kernel_rfl) ⟨_, ⟨rfl, rfl⟩, hs15⟩

def aused_M (img : List Int) (l : List (Int × Int)) (gb : Int) (ba : Int) (n_ : Int) : Option (Bool) :=
  (mget_M img l ba gb n_).bind fun r3 =>
some r3

set_option maxRecDepth 20000 in
set_option linter.unusedVariables false in
theorem aused_walk {img : List Int} {l : List (Int × Int)} {gw : Int} {gi : Int} {gb : Int} {ia : Int} {ba : Int} {n_ : Int} {ab ib bb vb : Nat} {r : Bool} (B : Nat) (w : World) (hab : w.heap[ab]? = some (.cells [(.pointer (some ⟨vb, 0, none⟩)), (.int .i64 gw), (.int .i64 gi), (.int .i64 gb), (.pointer (some ⟨ib, 0, none⟩)), (.int .i64 gi), (.pointer (some ⟨bb, 0, none⟩)), (.int .i64 gb)].toArray 188 (0, 0))) (hib : w.heap[ib]? = some (.cells [(.pointer (some ⟨vb, 0, none⟩)), (.int .i64 ia), (.int .i64 gi)].toArray 151 (0, 0))) (hbb : w.heap[bb]? = some (.cells [(.pointer (some ⟨vb, 0, none⟩)), (.int .i64 ba), (.int .i64 gb)].toArray 151 (0, 0))) (hv : ViewAt (ptr vb) img l w) (hm : aused_M img l gb ba n_ = some r) : Spec Tryd.prog 61 #[(.pointer (some ⟨ab, 0, none⟩)), (.int .i64 n_)] B w [] (fun v H' => v = .bool r ∧ H' = []) := by
  refine spec_Q Tryd.func61 rfl fun hs => ?_
  unfold aused_M at hm
  refine W.seq fun K1 hK1 => ?_
  refine W.region ?_
  refine ops_run 1 (by kernel_rfl) ?_
  refine ops_done (by kernel_rfl) ?_
  refine hK1 _ _ ?_
  clear hK1
  refine W.seq fun K2 hK2 => ?_
  refine W.region ?_
  refine ops_run 7 (by kernel_rfl) ?_
  refine ops_R (runs_load (ad := ⟨ab, 6, none⟩) (v := (.pointer (some ⟨bb, 0, none⟩))) (by kernel_rfl) (cell_of_blk (hs.old hab) rfl)) ?_
  refine ops_run 1 (by kernel_rfl) ?_
  obtain ⟨r3, h4, hm⟩ := bind_some hm
  refine ops_call0 hs (by kernel_rfl) (mget_walk (hmb := (hs.old hbb)) (hv := (viewAt_old hs hv)) (hm := h4) B _) ?_
  rintro _ _ w5 ⟨rfl, rfl⟩ hs6
  have hs7 := St.ap0 hs6
  refine ops_run 2 (by kernel_rfl) ?_
  refine ops_done (by kernel_rfl) ?_
  refine hK2 _ _ ?_
  clear hK2
  refine W.ret ?_
  obtain rfl := some_inj hm
  refine ret_of (.bool r3) (by kernel_rfl) ⟨_, ⟨rfl, rfl⟩, hs7⟩

set_option maxRecDepth 20000 in
theorem atakei_nil  (B : Nat) (w : World) : Spec Tryd.prog 57 #[(.pointer none)] B w [] (fun v H' => v = (.tuple #[(.int .i64 0), (.int .i64 2)]) ∧ H' = []) := by
  refine spec_Q Tryd.func57 rfl fun hs => ?_
  refine W.seq fun K1 hK1 => ?_
  refine W.region ?_
  refine ops_run 2 (by kernel_rfl) ?_
  refine ops_done (by kernel_rfl) ?_
  refine hK1 _ _ ?_
  clear hK1
  refine W.seq fun K2 hK2 => ?_
  refine W.seq fun K3 hK3 => ?_
  refine W.region ?_
  refine ops_run 2 (by kernel_rfl) ?_
  refine ops_done (by kernel_rfl) ?_
  refine hK3 _ _ ?_
  clear hK3
  refine W.cond_true true (by kernel_rfl) rfl ?_
  refine W.seq fun K4 hK4 => ?_
  refine W.region ?_
  refine ops_run 2 (by kernel_rfl) ?_
  refine ops_done (by kernel_rfl) ?_
  refine hK4 _ _ ?_
  clear hK4
  refine W.ret (ret_seq ?_)
  refine ret_of (.tuple #[(.int .i64 0), (.int .i64 2)]) (by kernel_rfl) ⟨_, ⟨rfl, rfl⟩, hs⟩

set_option maxRecDepth 20000 in
theorem atakeb_nil  (B : Nat) (w : World) : Spec Tryd.prog 58 #[(.pointer none)] B w [] (fun v H' => v = (.tuple #[(.int .i64 0), (.int .i64 2)]) ∧ H' = []) := by
  refine spec_Q Tryd.func58 rfl fun hs => ?_
  refine W.seq fun K1 hK1 => ?_
  refine W.region ?_
  refine ops_new (fun b => .pointer (some ⟨b, 0, none⟩)) (.cells [(.pointer none)].toArray 92 (0, 0)) hs (by kernel_rfl) (fun b4 w2 hs3 => ?_)
  refine ops_run 2 (by kernel_rfl) ?_
  refine ops_done (by kernel_rfl) ?_
  refine hK1 _ _ ?_
  clear hK1
  refine W.seq fun K5 hK5 => ?_
  refine W.seq fun K6 hK6 => ?_
  refine W.region ?_
  refine ops_R (runs_load (ad := ⟨b4, 0, none⟩) (v := (.pointer none)) (by kernel_rfl) (hs3.cellAt 0 rfl rfl)) ?_
  refine ops_run 1 (by kernel_rfl) ?_
  refine ops_done (by kernel_rfl) ?_
  refine hK6 _ _ ?_
  clear hK6
  refine W.cond_true true (by kernel_rfl) rfl ?_
  refine W.seq fun K7 hK7 => ?_
  refine W.region ?_
  refine ops_run 2 (by kernel_rfl) ?_
  refine ops_done (by kernel_rfl) ?_
  refine hK7 _ _ ?_
  clear hK7
  refine W.ret (ret_seq ?_)
  have hs8 := St.tk0 hs3
  refine ret_of (.tuple #[(.int .i64 0), (.int .i64 2)]) (by kernel_rfl) ⟨_, ⟨rfl, rfl⟩, hs8⟩

set_option maxRecDepth 20000 in
theorem afree_nil  (B : Nat) (w : World) : Spec Tryd.prog 56 #[(.pointer none)] B w [] (fun v H' => v = (.tuple #[(.int .i64 0), (.int .i64 0)]) ∧ H' = []) := by
  refine spec_Q Tryd.func56 rfl fun hs => ?_
  refine W.seq fun K1 hK1 => ?_
  refine W.region ?_
  refine ops_run 2 (by kernel_rfl) ?_
  refine ops_done (by kernel_rfl) ?_
  refine hK1 _ _ ?_
  clear hK1
  refine W.seq fun K2 hK2 => ?_
  refine W.seq fun K3 hK3 => ?_
  refine W.region ?_
  refine ops_run 2 (by kernel_rfl) ?_
  refine ops_done (by kernel_rfl) ?_
  refine hK3 _ _ ?_
  clear hK3
  refine W.cond_true true (by kernel_rfl) rfl ?_
  refine W.seq fun K4 hK4 => ?_
  refine W.region ?_
  refine ops_run 2 (by kernel_rfl) ?_
  refine ops_done (by kernel_rfl) ?_
  refine hK4 _ _ ?_
  clear hK4
  refine W.ret (ret_seq ?_)
  refine ret_of (.tuple #[(.int .i64 0), (.int .i64 0)]) (by kernel_rfl) ⟨_, ⟨rfl, rfl⟩, hs⟩

set_option maxRecDepth 20000 in
theorem agivei_nil {n_ : Int} (B : Nat) (w : World) : Spec Tryd.prog 59 #[(.pointer none), (.int .i64 n_)] B w [] (fun v H' => v = (.int .i64 2) ∧ H' = []) := by
  refine spec_Q Tryd.func59 rfl fun hs => ?_
  refine W.seq fun K1 hK1 => ?_
  refine W.region ?_
  refine ops_run 1 (by kernel_rfl) ?_
  refine ops_done (by kernel_rfl) ?_
  refine hK1 _ _ ?_
  clear hK1
  refine W.seq fun K2 hK2 => ?_
  refine W.seq fun K3 hK3 => ?_
  refine W.region ?_
  refine ops_run 2 (by kernel_rfl) ?_
  refine ops_done (by kernel_rfl) ?_
  refine hK3 _ _ ?_
  clear hK3
  refine W.cond_true true (by kernel_rfl) rfl ?_
  refine W.seq fun K4 hK4 => ?_
  refine W.region ?_
  refine ops_run 1 (by kernel_rfl) ?_
  refine ops_done (by kernel_rfl) ?_
  refine hK4 _ _ ?_
  clear hK4
  refine W.ret (ret_seq ?_)
  refine ret_of (.int .i64 2) (by kernel_rfl) ⟨_, ⟨rfl, rfl⟩, hs⟩

set_option maxRecDepth 20000 in
theorem agiveb_nil {n_ : Int} (B : Nat) (w : World) : Spec Tryd.prog 60 #[(.pointer none), (.int .i64 n_)] B w [] (fun v H' => v = (.int .i64 2) ∧ H' = []) := by
  refine spec_Q Tryd.func60 rfl fun hs => ?_
  refine W.seq fun K1 hK1 => ?_
  refine W.region ?_
  refine ops_run 1 (by kernel_rfl) ?_
  refine ops_done (by kernel_rfl) ?_
  refine hK1 _ _ ?_
  clear hK1
  refine W.seq fun K2 hK2 => ?_
  refine W.seq fun K3 hK3 => ?_
  refine W.region ?_
  refine ops_run 2 (by kernel_rfl) ?_
  refine ops_done (by kernel_rfl) ?_
  refine hK3 _ _ ?_
  clear hK3
  refine W.cond_true true (by kernel_rfl) rfl ?_
  refine W.seq fun K4 hK4 => ?_
  refine W.region ?_
  refine ops_run 1 (by kernel_rfl) ?_
  refine ops_done (by kernel_rfl) ?_
  refine hK4 _ _ ?_
  clear hK4
  refine W.ret (ret_seq ?_)
  refine ret_of (.int .i64 2) (by kernel_rfl) ⟨_, ⟨rfl, rfl⟩, hs⟩

set_option maxRecDepth 20000 in
theorem aused_nil {n_ : Int} (B : Nat) (w : World) : Spec Tryd.prog 61 #[(.pointer none), (.int .i64 n_)] B w [] (fun v H' => v = (.bool false) ∧ H' = []) := by
  refine spec_Q Tryd.func61 rfl fun hs => ?_
  refine W.seq fun K1 hK1 => ?_
  refine W.region ?_
  refine ops_run 1 (by kernel_rfl) ?_
  refine ops_done (by kernel_rfl) ?_
  refine hK1 _ _ ?_
  clear hK1
  refine W.seq fun K2 hK2 => ?_
  refine W.region ?_
  refine ops_run 12 (by kernel_rfl) ?_
  refine ops_done (by kernel_rfl) ?_
  refine hK2 _ _ ?_
  clear hK2
  refine W.ret ?_
  refine ret_of (.bool false) (by kernel_rfl) ⟨_, ⟨rfl, rfl⟩, hs⟩

end Go.Proofs.YthimamnblklkbaaDoor

/- What the code computes, by a program. -/
namespace Go.Proofs.YthimamnblklkbaaDoor
open Go Go.RowKit
set_option linter.unusedSimpArgs false
set_option linter.unusedVariables false

def works07_M  : Option (Bool) :=
  need ((fmtW 1 3 4).length ≤ 17592186044415) <|
need (((fmtW 1 3 4).length : Int) ≤ 1000000000000) <|
if May 1 3 4 ∧ wordsOf 1 3 4 ≤ ((fmtW 1 3 4).length : Int) then ((afree_M (fmtW 1 3 4) ([]) 3 4 (placeOf 6 1 3 4 0) (placeOf 7 1 3 4 0)).bind fun r32 =>
(atakei_M (fmtW 1 3 4) ([]) 3 (placeOf 6 1 3 4 0)).bind fun r38 =>
(atakei_M (fmtW 1 3 4) r38.2.2 3 (placeOf 6 1 3 4 0)).bind fun r48 =>
(atakeb_M (fmtW 1 3 4) r48.2.2 1 3 4 (placeOf 7 1 3 4 0)).bind fun r58 =>
(agiveb_M (fmtW 1 3 4) r58.2.2 4 (placeOf 7 1 3 4 0) 1).bind fun r68 =>
(atakeb_M (fmtW 1 3 4) r68.2 1 3 4 (placeOf 7 1 3 4 0)).bind fun r78 =>
if r32.1 = 1 then (if r32.2 = 3 then (if r38.1 = 2 then (if r38.2.1 = 0 then (if r48.2.1 = 7 then (if r58.1 = 1 then (if r58.2.1 = 0 then (if r68.1 = 0 then (if r78.1 = 1 then (some (decide (r78.2.1 = 0))) else (some false)) else (some false)) else (some false)) else (some false)) else (some false)) else (some false)) else (some false)) else (some false)) else (some false)) else ((some (if May 1 3 4 then (8 : Int) else 1)).bind fun r110 =>
some false)

set_option maxRecDepth 20000 in
set_option maxHeartbeats 4000000 in
set_option linter.unusedVariables false in
theorem works07_walk   {r : Bool} (B : Nat) (w : World) (hG : 0 < B) (hT : CellsAt (some ⟨0, 0, none⟩) tab8 w) (hm : works07_M = some r) : Spec Tryd.prog 62 #[] B w [] (fun v H' => v = .bool r ∧ H' = []) := by
  refine spec_Q Tryd.func62 rfl fun hs => ?_
  unfold works07_M at hm
  refine W.seq fun K1 hK1 => ?_
  refine W.region ?_
  refine ops_run 1 (by kernel_rfl) ?_
  refine ops_done (by kernel_rfl) ?_
  refine hK1 _ _ ?_
  clear hK1
  refine W.seq fun K2 hK2 => ?_
  refine W.region ?_
  refine ops_run 1 (by kernel_rfl) ?_
  refine ops_new (fun b => .pointer (some ⟨b, 0, none⟩)) (.cells [(.int .i64 0), (.int .i64 0), (.int .i64 0)].toArray 63 (0, 0)) hs (by kernel_rfl) (fun b5 w3 hs4 => ?_)
  refine ops_store (off := 0) (cs := [(.int .i64 0), (.int .i64 0), (.int .i64 0)]) (vs := [(.int .i64 1), (.int .i64 3), (.int .i64 4)]) hs4 (by kernel_rfl) (by simp) rfl (fun w6 hs7 => ?_)
  have hs8 : St B w [] w6 [blk b5 (.cells [(.int .i64 1), (.int .i64 3), (.int .i64 4)].toArray 63 (0, 0))] := hs7
  refine ops_done (by kernel_rfl) ?_
  refine hK2 _ _ ?_
  clear hK2
  refine W.seq fun K9 hK9 => ?_
  refine W.region ?_
  refine ops_R (runs_loadAgg (ad := ⟨b5, 0, none⟩) (cs := [(.int .i64 1), (.int .i64 3), (.int .i64 4)]) (by kernel_rfl) (cells_sub (hs8.heapAt 0 rfl) rfl)) ?_
  refine ops_call0 hs8 (by kernel_rfl) (lformat_spec (gw := 1) (gi := 3) (gb := 4) B _) ?_
  rintro _ _ w12 ⟨a10, c11, rfl, rfl⟩ hs13
  have hs14 := St.ap1 hs13
  obtain ⟨h16, hm⟩ := need_some hm
  refine ops_call0 hs14 (by kernel_rfl) (new_spec (hc := (St.kcells kU64 hs14 0 rfl)) (hn := (St.capnil kU64 hs14 0 rfl)) (hsz := h16) B _) ?_
  rintro _ _ w17 ⟨b15, rfl, rfl⟩ hs18
  have hs19 := St.ap1 hs18
  refine ops_run 1 (by kernel_rfl) ?_
  refine ops_done (by kernel_rfl) ?_
  refine hK9 _ _ ?_
  clear hK9
  refine W.seq fun K20 hK20 => ?_
  refine W.region ?_
  refine ops_run 1 (by kernel_rfl) ?_
  refine ops_R (runs_loadAgg (ad := ⟨b5, 0, none⟩) (cs := [(.int .i64 1), (.int .i64 3), (.int .i64 4)]) (by kernel_rfl) (cells_sub (hs19.heapAt 2 rfl) rfl)) ?_
  obtain ⟨h21, hm⟩ := need_some hm
  rcases Bool.eq_false_or_eq_true (decide (May 1 3 4 ∧ wordsOf 1 3 4 ≤ ((fmtW 1 3 4).length : Int))) with h22 | h22
  ·
    have h22p : May 1 3 4 ∧ wordsOf 1 3 4 ≤ ((fmtW 1 3 4).length : Int) := of_decide_eq_true h22
    replace hm := ite_yes hm h22p
    refine ops_call0 hs19 (by kernel_rfl) (anew_ok (gw := 1) (gi := 3) (gb := 4) (hv := (hs19.entAt 0 rfl viewA_at)) (hz := h21) (hP := h22p) B _) ?_
    rintro _ _ w26 ⟨b23, b24, b25, rfl, rfl⟩ hs27
    have hs28 := St.ap3 hs27
    refine ops_run 5 (by kernel_rfl) ?_
    refine ops_done (by kernel_rfl) ?_
    refine hK20 _ _ ?_
    clear hK20
    refine W.seq fun K29 hK29 => ?_
    refine W.seq fun K30 hK30 => ?_
    refine W.region ?_
    refine ops_run 6 (by kernel_rfl) ?_
    refine ops_done (by kernel_rfl) ?_
    refine hK30 _ _ ?_
    clear hK30
    refine W.cond_false false (by kernel_rfl) rfl ?_
    refine W.skip ?_
    refine hK29 _ _ ?_
    clear hK29
    refine W.seq fun K31 hK31 => ?_
    refine W.region ?_
    refine ops_run 1 (by kernel_rfl) ?_
    obtain ⟨r32, h33, hm⟩ := bind_some hm
    refine ops_call0 hs28 (by kernel_rfl) (afree_walk (hab := (hs28.heapAt 0 rfl)) (hib := (hs28.heapAt 1 rfl)) (hbb := (hs28.heapAt 2 rfl)) (hv := (hs28.entAt 3 rfl viewA_at)) (hm := h33) B _) ?_
    rintro _ _ w34 ⟨rfl, rfl⟩ hs35
    have hs36 := St.ap0 hs35
    refine ops_run 5 (by kernel_rfl) ?_
    refine ops_done (by kernel_rfl) ?_
    refine hK31 _ _ ?_
    clear hK31
    refine W.seq fun K37 hK37 => ?_
    refine W.region ?_
    refine ops_run 1 (by kernel_rfl) ?_
    obtain ⟨r38, h39, hm⟩ := bind_some hm
    have hs40 := St.f3 hs36
    have hs41 := St.f3 hs40
    have hs42 := St.f3 hs41
    have hs43 := St.f3 hs42
    refine ops_call4 hs43 (by kernel_rfl) (atakei_walk (ab := b23) (ib := b24) (bb := b25) (vb := b15) (img := (fmtW 1 3 4)) (l := []) (gw := 1) (gi := 3) (gb := 4) (ia := (placeOf 6 1 3 4 0)) (ba := (placeOf 7 1 3 4 0)) (hG := hG) (hT := (hs36.oldCells hT)) (hm := h39) B _) ?_
    rintro _ _ w44 ⟨rfl, rfl⟩ hs45
    have hs46 := St.ap4 hs45
    refine ops_run 5 (by kernel_rfl) ?_
    refine ops_done (by kernel_rfl) ?_
    refine hK37 _ _ ?_
    clear hK37
    refine W.seq fun K47 hK47 => ?_
    refine W.region ?_
    refine ops_run 1 (by kernel_rfl) ?_
    obtain ⟨r48, h49, hm⟩ := bind_some hm
    have hs50 := St.f3 hs46
    have hs51 := St.f3 hs50
    have hs52 := St.f3 hs51
    have hs53 := St.f3 hs52
    refine ops_call4 hs53 (by kernel_rfl) (atakei_walk (ab := b23) (ib := b24) (bb := b25) (vb := b15) (img := (fmtW 1 3 4)) (l := r38.2.2) (gw := 1) (gi := 3) (gb := 4) (ia := (placeOf 6 1 3 4 0)) (ba := (placeOf 7 1 3 4 0)) (hG := hG) (hT := (hs46.oldCells hT)) (hm := h49) B _) ?_
    rintro _ _ w54 ⟨rfl, rfl⟩ hs55
    have hs56 := St.ap4 hs55
    refine ops_run 5 (by kernel_rfl) ?_
    refine ops_done (by kernel_rfl) ?_
    refine hK47 _ _ ?_
    clear hK47
    refine W.seq fun K57 hK57 => ?_
    refine W.region ?_
    refine ops_run 1 (by kernel_rfl) ?_
    obtain ⟨r58, h59, hm⟩ := bind_some hm
    have hs60 := St.f3 hs56
    have hs61 := St.f3 hs60
    have hs62 := St.f3 hs61
    have hs63 := St.f3 hs62
    refine ops_call4 hs63 (by kernel_rfl) (atakeb_walk (ab := b23) (ib := b24) (bb := b25) (vb := b15) (img := (fmtW 1 3 4)) (l := r48.2.2) (gw := 1) (gi := 3) (gb := 4) (ia := (placeOf 6 1 3 4 0)) (ba := (placeOf 7 1 3 4 0)) (hG := hG) (hT := (hs56.oldCells hT)) (hm := h59) B _) ?_
    rintro _ _ w64 ⟨rfl, rfl⟩ hs65
    have hs66 := St.ap4 hs65
    refine ops_run 5 (by kernel_rfl) ?_
    refine ops_done (by kernel_rfl) ?_
    refine hK57 _ _ ?_
    clear hK57
    refine W.seq fun K67 hK67 => ?_
    refine W.region ?_
    refine ops_run 1 (by kernel_rfl) ?_
    obtain ⟨r68, h69, hm⟩ := bind_some hm
    have hs70 := St.f3 hs66
    have hs71 := St.f3 hs70
    have hs72 := St.f3 hs71
    have hs73 := St.f3 hs72
    refine ops_call4 hs73 (by kernel_rfl) (agiveb_walk (ab := b23) (ib := b24) (bb := b25) (vb := b15) (img := (fmtW 1 3 4)) (l := r58.2.2) (gw := 1) (gi := 3) (gb := 4) (ia := (placeOf 6 1 3 4 0)) (ba := (placeOf 7 1 3 4 0)) (n_ := 1) (hm := h69) B _) ?_
    rintro _ _ w74 ⟨rfl, rfl⟩ hs75
    have hs76 := St.ap4 hs75
    refine ops_run 1 (by kernel_rfl) ?_
    refine ops_done (by kernel_rfl) ?_
    refine hK67 _ _ ?_
    clear hK67
    refine W.seq fun K77 hK77 => ?_
    refine W.region ?_
    refine ops_run 1 (by kernel_rfl) ?_
    obtain ⟨r78, h79, hm⟩ := bind_some hm
    have hs80 := St.f3 hs76
    have hs81 := St.f3 hs80
    have hs82 := St.f3 hs81
    have hs83 := St.f3 hs82
    refine ops_call4 hs83 (by kernel_rfl) (atakeb_walk (ab := b23) (ib := b24) (bb := b25) (vb := b15) (img := (fmtW 1 3 4)) (l := r68.2) (gw := 1) (gi := 3) (gb := 4) (ia := (placeOf 6 1 3 4 0)) (ba := (placeOf 7 1 3 4 0)) (hG := hG) (hT := (hs76.oldCells hT)) (hm := h79) B _) ?_
    rintro _ _ w84 ⟨rfl, rfl⟩ hs85
    have hs86 := St.ap4 hs85
    refine ops_run 5 (by kernel_rfl) ?_
    refine ops_done (by kernel_rfl) ?_
    refine hK77 _ _ ?_
    clear hK77
    refine W.seq fun K87 hK87 => ?_
    refine W.region ?_
    refine ops_run 7 (by kernel_rfl) ?_
    rcases Bool.eq_false_or_eq_true (decide (r32.1 = 1)) with h88 | h88
    ·
      have h88p : r32.1 = 1 := of_decide_eq_true h88
      replace hm := ite_yes hm h88p
      refine ops_set 65 (v := .bool true) (eq_bool_of (by kernel_rfl) h88) ?_
      refine ops_set 63 (v := .bool true) (eq_bool_of (by kernel_rfl) h88) ?_
      refine ops_set 64 (v := .bool true) (eq_bool_of (by kernel_rfl) h88) ?_
      refine ops_run 4 (by kernel_rfl) ?_
      rcases Bool.eq_false_or_eq_true (decide (r32.2 = 3)) with h89 | h89
      ·
        have h89p : r32.2 = 3 := of_decide_eq_true h89
        replace hm := ite_yes hm h89p
        refine ops_set 69 (v := .bool true) (eq_bool_of (by kernel_rfl) h89) ?_
        refine ops_set 67 (v := .bool true) (eq_bool_of (by kernel_rfl) h89) ?_
        refine ops_set 68 (v := .bool true) (eq_bool_of (by kernel_rfl) h89) ?_
        refine ops_run 4 (by kernel_rfl) ?_
        rcases Bool.eq_false_or_eq_true (decide (r38.1 = 2)) with h90 | h90
        ·
          have h90p : r38.1 = 2 := of_decide_eq_true h90
          replace hm := ite_yes hm h90p
          refine ops_set 73 (v := .bool true) (eq_bool_of (by kernel_rfl) h90) ?_
          refine ops_set 71 (v := .bool true) (eq_bool_of (by kernel_rfl) h90) ?_
          refine ops_set 72 (v := .bool true) (eq_bool_of (by kernel_rfl) h90) ?_
          refine ops_run 4 (by kernel_rfl) ?_
          rcases Bool.eq_false_or_eq_true (decide (r38.2.1 = 0)) with h91 | h91
          ·
            have h91p : r38.2.1 = 0 := of_decide_eq_true h91
            replace hm := ite_yes hm h91p
            refine ops_set 77 (v := .bool true) (eq_bool_of (by kernel_rfl) h91) ?_
            refine ops_set 75 (v := .bool true) (eq_bool_of (by kernel_rfl) h91) ?_
            refine ops_set 76 (v := .bool true) (eq_bool_of (by kernel_rfl) h91) ?_
            refine ops_run 4 (by kernel_rfl) ?_
            rcases Bool.eq_false_or_eq_true (decide (r48.2.1 = 7)) with h92 | h92
            ·
              have h92p : r48.2.1 = 7 := of_decide_eq_true h92
              replace hm := ite_yes hm h92p
              refine ops_set 81 (v := .bool true) (eq_bool_of (by kernel_rfl) h92) ?_
              refine ops_set 79 (v := .bool true) (eq_bool_of (by kernel_rfl) h92) ?_
              refine ops_set 80 (v := .bool true) (eq_bool_of (by kernel_rfl) h92) ?_
              refine ops_run 4 (by kernel_rfl) ?_
              rcases Bool.eq_false_or_eq_true (decide (r58.1 = 1)) with h93 | h93
              ·
                have h93p : r58.1 = 1 := of_decide_eq_true h93
                replace hm := ite_yes hm h93p
                refine ops_set 85 (v := .bool true) (eq_bool_of (by kernel_rfl) h93) ?_
                refine ops_set 83 (v := .bool true) (eq_bool_of (by kernel_rfl) h93) ?_
                refine ops_set 84 (v := .bool true) (eq_bool_of (by kernel_rfl) h93) ?_
                refine ops_run 4 (by kernel_rfl) ?_
                rcases Bool.eq_false_or_eq_true (decide (r58.2.1 = 0)) with h94 | h94
                ·
                  have h94p : r58.2.1 = 0 := of_decide_eq_true h94
                  replace hm := ite_yes hm h94p
                  refine ops_set 89 (v := .bool true) (eq_bool_of (by kernel_rfl) h94) ?_
                  refine ops_set 87 (v := .bool true) (eq_bool_of (by kernel_rfl) h94) ?_
                  refine ops_set 88 (v := .bool true) (eq_bool_of (by kernel_rfl) h94) ?_
                  refine ops_run 4 (by kernel_rfl) ?_
                  rcases Bool.eq_false_or_eq_true (decide (r68.1 = 0)) with h95 | h95
                  ·
                    have h95p : r68.1 = 0 := of_decide_eq_true h95
                    replace hm := ite_yes hm h95p
                    refine ops_set 93 (v := .bool true) (eq_bool_of (by kernel_rfl) h95) ?_
                    refine ops_set 91 (v := .bool true) (eq_bool_of (by kernel_rfl) h95) ?_
                    refine ops_set 92 (v := .bool true) (eq_bool_of (by kernel_rfl) h95) ?_
                    refine ops_run 4 (by kernel_rfl) ?_
                    rcases Bool.eq_false_or_eq_true (decide (r78.1 = 1)) with h96 | h96
                    ·
                      have h96p : r78.1 = 1 := of_decide_eq_true h96
                      replace hm := ite_yes hm h96p
                      refine ops_set 97 (v := .bool true) (eq_bool_of (by kernel_rfl) h96) ?_
                      refine ops_set 95 (v := .bool true) (eq_bool_of (by kernel_rfl) h96) ?_
                      refine ops_set 96 (v := .bool true) (eq_bool_of (by kernel_rfl) h96) ?_
                      refine ops_run 4 (by kernel_rfl) ?_
                      refine ops_done (by kernel_rfl) ?_
                      refine hK87 _ _ ?_
                      clear hK87
                      refine W.ret ?_
                      obtain rfl := some_inj hm
                      have hs97 := St.tk0 hs86
                      refine ret_of (.bool (decide (r78.2.1 = 0))) (by kernel_rfl) ⟨_, ⟨rfl, rfl⟩, hs97⟩
                    ·
                      have h96p : ¬ (r78.1 = 1) := of_decide_eq_false h96
                      replace hm := ite_no hm h96p
                      refine ops_set 97 (v := .bool false) (eq_bool_of (by kernel_rfl) h96) ?_
                      refine ops_set 95 (v := .bool false) (eq_bool_of (by kernel_rfl) h96) ?_
                      refine ops_set 96 (v := .bool false) (eq_bool_of (by kernel_rfl) h96) ?_
                      refine ops_run 4 (by kernel_rfl) ?_
                      refine ops_done (by kernel_rfl) ?_
                      refine hK87 _ _ ?_
                      clear hK87
                      refine W.ret ?_
                      obtain rfl := some_inj hm
                      have hs98 := St.tk0 hs86
                      refine ret_of (.bool false) (by kernel_rfl) ⟨_, ⟨rfl, rfl⟩, hs98⟩
                  ·
                    have h95p : ¬ (r68.1 = 0) := of_decide_eq_false h95
                    replace hm := ite_no hm h95p
                    refine ops_set 93 (v := .bool false) (eq_bool_of (by kernel_rfl) h95) ?_
                    refine ops_set 91 (v := .bool false) (eq_bool_of (by kernel_rfl) h95) ?_
                    refine ops_set 92 (v := .bool false) (eq_bool_of (by kernel_rfl) h95) ?_
                    refine ops_run 8 (by kernel_rfl) ?_
                    refine ops_done (by kernel_rfl) ?_
                    refine hK87 _ _ ?_
                    clear hK87
                    refine W.ret ?_
                    obtain rfl := some_inj hm
                    have hs99 := St.tk0 hs86
                    refine ret_of (.bool false) (by kernel_rfl) ⟨_, ⟨rfl, rfl⟩, hs99⟩
                ·
                  have h94p : ¬ (r58.2.1 = 0) := of_decide_eq_false h94
                  replace hm := ite_no hm h94p
                  refine ops_set 89 (v := .bool false) (eq_bool_of (by kernel_rfl) h94) ?_
                  refine ops_set 87 (v := .bool false) (eq_bool_of (by kernel_rfl) h94) ?_
                  refine ops_set 88 (v := .bool false) (eq_bool_of (by kernel_rfl) h94) ?_
                  refine ops_run 12 (by kernel_rfl) ?_
                  refine ops_done (by kernel_rfl) ?_
                  refine hK87 _ _ ?_
                  clear hK87
                  refine W.ret ?_
                  obtain rfl := some_inj hm
                  have hs100 := St.tk0 hs86
                  refine ret_of (.bool false) (by kernel_rfl) ⟨_, ⟨rfl, rfl⟩, hs100⟩
              ·
                have h93p : ¬ (r58.1 = 1) := of_decide_eq_false h93
                replace hm := ite_no hm h93p
                refine ops_set 85 (v := .bool false) (eq_bool_of (by kernel_rfl) h93) ?_
                refine ops_set 83 (v := .bool false) (eq_bool_of (by kernel_rfl) h93) ?_
                refine ops_set 84 (v := .bool false) (eq_bool_of (by kernel_rfl) h93) ?_
                refine ops_run 16 (by kernel_rfl) ?_
                refine ops_done (by kernel_rfl) ?_
                refine hK87 _ _ ?_
                clear hK87
                refine W.ret ?_
                obtain rfl := some_inj hm
                have hs101 := St.tk0 hs86
                refine ret_of (.bool false) (by kernel_rfl) ⟨_, ⟨rfl, rfl⟩, hs101⟩
            ·
              have h92p : ¬ (r48.2.1 = 7) := of_decide_eq_false h92
              replace hm := ite_no hm h92p
              refine ops_set 81 (v := .bool false) (eq_bool_of (by kernel_rfl) h92) ?_
              refine ops_set 79 (v := .bool false) (eq_bool_of (by kernel_rfl) h92) ?_
              refine ops_set 80 (v := .bool false) (eq_bool_of (by kernel_rfl) h92) ?_
              refine ops_run 20 (by kernel_rfl) ?_
              refine ops_done (by kernel_rfl) ?_
              refine hK87 _ _ ?_
              clear hK87
              refine W.ret ?_
              obtain rfl := some_inj hm
              have hs102 := St.tk0 hs86
              refine ret_of (.bool false) (by kernel_rfl) ⟨_, ⟨rfl, rfl⟩, hs102⟩
          ·
            have h91p : ¬ (r38.2.1 = 0) := of_decide_eq_false h91
            replace hm := ite_no hm h91p
            refine ops_set 77 (v := .bool false) (eq_bool_of (by kernel_rfl) h91) ?_
            refine ops_set 75 (v := .bool false) (eq_bool_of (by kernel_rfl) h91) ?_
            refine ops_set 76 (v := .bool false) (eq_bool_of (by kernel_rfl) h91) ?_
            refine ops_run 24 (by kernel_rfl) ?_
            refine ops_done (by kernel_rfl) ?_
            refine hK87 _ _ ?_
            clear hK87
            refine W.ret ?_
            obtain rfl := some_inj hm
            have hs103 := St.tk0 hs86
            refine ret_of (.bool false) (by kernel_rfl) ⟨_, ⟨rfl, rfl⟩, hs103⟩
        ·
          have h90p : ¬ (r38.1 = 2) := of_decide_eq_false h90
          replace hm := ite_no hm h90p
          refine ops_set 73 (v := .bool false) (eq_bool_of (by kernel_rfl) h90) ?_
          refine ops_set 71 (v := .bool false) (eq_bool_of (by kernel_rfl) h90) ?_
          refine ops_set 72 (v := .bool false) (eq_bool_of (by kernel_rfl) h90) ?_
          refine ops_run 28 (by kernel_rfl) ?_
          refine ops_done (by kernel_rfl) ?_
          refine hK87 _ _ ?_
          clear hK87
          refine W.ret ?_
          obtain rfl := some_inj hm
          have hs104 := St.tk0 hs86
          refine ret_of (.bool false) (by kernel_rfl) ⟨_, ⟨rfl, rfl⟩, hs104⟩
      ·
        have h89p : ¬ (r32.2 = 3) := of_decide_eq_false h89
        replace hm := ite_no hm h89p
        refine ops_set 69 (v := .bool false) (eq_bool_of (by kernel_rfl) h89) ?_
        refine ops_set 67 (v := .bool false) (eq_bool_of (by kernel_rfl) h89) ?_
        refine ops_set 68 (v := .bool false) (eq_bool_of (by kernel_rfl) h89) ?_
        refine ops_run 32 (by kernel_rfl) ?_
        refine ops_done (by kernel_rfl) ?_
        refine hK87 _ _ ?_
        clear hK87
        refine W.ret ?_
        obtain rfl := some_inj hm
        have hs105 := St.tk0 hs86
        refine ret_of (.bool false) (by kernel_rfl) ⟨_, ⟨rfl, rfl⟩, hs105⟩
    ·
      have h88p : ¬ (r32.1 = 1) := of_decide_eq_false h88
      replace hm := ite_no hm h88p
      refine ops_set 65 (v := .bool false) (eq_bool_of (by kernel_rfl) h88) ?_
      refine ops_set 63 (v := .bool false) (eq_bool_of (by kernel_rfl) h88) ?_
      refine ops_set 64 (v := .bool false) (eq_bool_of (by kernel_rfl) h88) ?_
      refine ops_run 36 (by kernel_rfl) ?_
      refine ops_done (by kernel_rfl) ?_
      refine hK87 _ _ ?_
      clear hK87
      refine W.ret ?_
      obtain rfl := some_inj hm
      have hs106 := St.tk0 hs86
      refine ret_of (.bool false) (by kernel_rfl) ⟨_, ⟨rfl, rfl⟩, hs106⟩
  ·
    have h22p : ¬ (May 1 3 4 ∧ wordsOf 1 3 4 ≤ ((fmtW 1 3 4).length : Int)) := of_decide_eq_false h22
    replace hm := ite_no hm h22p
    refine ops_call0 hs19 (by kernel_rfl) (anew_err (gw := 1) (gi := 3) (gb := 4) (hv := (hs19.entAt 0 rfl viewA_at)) (hz := h21) (hN := h22p) B _) ?_
    rintro _ _ w107 ⟨rfl, rfl⟩ hs108
    have hs109 := St.ap0 hs108
    refine ops_run 5 (by kernel_rfl) ?_
    obtain ⟨r110, h111, hm⟩ := bind_some hm
    replace h111 := some_inj h111
    refine ops_set 4 (v := .int .i64 r110) (Eq.trans (by kernel_rfl) (congrArg (Value.int .i64) h111)) ?_
    refine ops_done (by kernel_rfl) ?_
    refine hK20 _ _ ?_
    clear hK20
    refine W.seq fun K112 hK112 => ?_
    refine W.seq fun K113 hK113 => ?_
    refine W.region ?_
    refine ops_run 6 (by kernel_rfl) ?_
    refine ops_done (by kernel_rfl) ?_
    refine hK113 _ _ ?_
    clear hK113
    refine W.cond_true true (by kernel_rfl) rfl ?_
    refine W.seq fun K114 hK114 => ?_
    refine W.region ?_
    refine ops_run 1 (by kernel_rfl) ?_
    refine ops_done (by kernel_rfl) ?_
    refine hK114 _ _ ?_
    clear hK114
    refine W.ret (ret_seq ?_)
    obtain rfl := some_inj hm
    have hs115 := St.tk0 hs109
    refine ret_of (.bool false) (by kernel_rfl) ⟨_, ⟨rfl, rfl⟩, hs115⟩

end Go.Proofs.YthimamnblklkbaaDoor

/- The example of layer 7, computed. -/
namespace Go.Proofs.YthimamnblklkbaaDoor
open Go Go.RowKit
theorem works07_eq : works07_M = some true := by decide +kernel
end Go.Proofs.YthimamnblklkbaaDoor
