/- What the code computes, by a program. -/
import Derived.Test.YthimamnblklkbaaDoorGG
namespace Go.Proofs.YthimamnblklkbaaDoor
open Go Go.RowKit
set_option linter.unusedSimpArgs false
set_option linter.unusedVariables false

def allocnil_M  : Option (Bool) :=
  (works07_M).bind fun r32 =>
some r32

set_option maxRecDepth 20000 in
set_option maxHeartbeats 4000000 in
set_option linter.unusedVariables false in
theorem allocnil_walk {gw : Int} {gi : Int} {gb : Int} {n_ : Int}   (B : Nat) (w : World) (hB : w.heap.size = B) (hT : CellsAt (some ⟨0, 0, none⟩) tab8 w) (hm : allocnil_M = some true) : Spec Tryd.prog 12 #[(.agg #[(.int .i64 gw), (.int .i64 gi), (.int .i64 gb)]), (.int .i64 n_)] B w [] (fun v H' => v = .bool true ∧ H' = []) := by
  refine spec_Q Tryd.func12 rfl fun hs => ?_
  unfold allocnil_M at hm
  have hG : 0 < B := by rw [← hB]; exact lt_of_cells hT (v := .int .u8 0) (by kernel_rfl)
  refine W.seq fun K1 hK1 => ?_
  refine W.region ?_
  refine ops_new (fun b => .pointer (some ⟨b, 0, none⟩)) (.cells [(.int .i64 gw), (.int .i64 gi), (.int .i64 gb)].toArray 63 (0, 0)) hs (by kernel_rfl) (fun b4 w2 hs3 => ?_)
  refine ops_run 1 (by kernel_rfl) ?_
  refine ops_done (by kernel_rfl) ?_
  refine hK1 _ _ ?_
  clear hK1
  refine W.seq fun K5 hK5 => ?_
  refine W.region ?_
  refine ops_run 1 (by kernel_rfl) ?_
  refine ops_done (by kernel_rfl) ?_
  refine hK5 _ _ ?_
  clear hK5
  refine W.seq fun K6 hK6 => ?_
  refine W.region ?_
  refine ops_R (runs_loadAgg (ad := ⟨b4, 0, none⟩) (cs := [(.int .i64 gw), (.int .i64 gi), (.int .i64 gb)]) (by kernel_rfl) (cells_sub (hs3.heapAt 0 rfl) rfl)) ?_
  refine ops_call (pre := []) hs3 (by kernel_rfl) (anew_nil (gw := gw) (gi := gi) (gb := gb) B _) ?_
  rintro _ _ w7 ⟨rfl, rfl⟩ hs8
  have hs9 : St B w [] w7 [blk b4 (.cells [(.int .i64 gw), (.int .i64 gi), (.int .i64 gb)].toArray 63 (0, 0))] := hs8
  refine ops_run 5 (by kernel_rfl) ?_
  refine ops_done (by kernel_rfl) ?_
  refine hK6 _ _ ?_
  clear hK6
  refine W.seq fun K10 hK10 => ?_
  refine W.region ?_
  refine ops_run 1 (by kernel_rfl) ?_
  refine ops_call (pre := []) hs9 (by kernel_rfl) (afree_nil B _) ?_
  rintro _ _ w11 ⟨rfl, rfl⟩ hs12
  have hs13 : St B w [] w11 [blk b4 (.cells [(.int .i64 gw), (.int .i64 gi), (.int .i64 gb)].toArray 63 (0, 0))] := hs12
  refine ops_run 5 (by kernel_rfl) ?_
  refine ops_done (by kernel_rfl) ?_
  refine hK10 _ _ ?_
  clear hK10
  refine W.seq fun K14 hK14 => ?_
  refine W.region ?_
  refine ops_run 1 (by kernel_rfl) ?_
  refine ops_call (pre := []) hs13 (by kernel_rfl) (atakei_nil B _) ?_
  rintro _ _ w15 ⟨rfl, rfl⟩ hs16
  have hs17 : St B w [] w15 [blk b4 (.cells [(.int .i64 gw), (.int .i64 gi), (.int .i64 gb)].toArray 63 (0, 0))] := hs16
  refine ops_run 5 (by kernel_rfl) ?_
  refine ops_done (by kernel_rfl) ?_
  refine hK14 _ _ ?_
  clear hK14
  refine W.seq fun K18 hK18 => ?_
  refine W.region ?_
  refine ops_run 1 (by kernel_rfl) ?_
  refine ops_call (pre := []) hs17 (by kernel_rfl) (atakeb_nil B _) ?_
  rintro _ _ w19 ⟨rfl, rfl⟩ hs20
  have hs21 : St B w [] w19 [blk b4 (.cells [(.int .i64 gw), (.int .i64 gi), (.int .i64 gb)].toArray 63 (0, 0))] := hs20
  refine ops_run 5 (by kernel_rfl) ?_
  refine ops_done (by kernel_rfl) ?_
  refine hK18 _ _ ?_
  clear hK18
  refine W.seq fun K22 hK22 => ?_
  refine W.region ?_
  refine ops_run 21 (by kernel_rfl) ?_
  refine ops_call (pre := []) hs21 (by kernel_rfl) (agivei_nil (n_ := n_) B _) ?_
  rintro _ _ w23 ⟨rfl, rfl⟩ hs24
  have hs25 : St B w [] w23 [blk b4 (.cells [(.int .i64 gw), (.int .i64 gi), (.int .i64 gb)].toArray 63 (0, 0))] := hs24
  refine ops_run 5 (by kernel_rfl) ?_
  refine ops_call (pre := []) hs25 (by kernel_rfl) (agiveb_nil (n_ := n_) B _) ?_
  rintro _ _ w26 ⟨rfl, rfl⟩ hs27
  have hs28 : St B w [] w26 [blk b4 (.cells [(.int .i64 gw), (.int .i64 gi), (.int .i64 gb)].toArray 63 (0, 0))] := hs27
  refine ops_run 5 (by kernel_rfl) ?_
  refine ops_call (pre := []) hs28 (by kernel_rfl) (aused_nil (n_ := n_) B _) ?_
  rintro _ _ w29 ⟨rfl, rfl⟩ hs30
  have hs31 : St B w [] w29 [blk b4 (.cells [(.int .i64 gw), (.int .i64 gi), (.int .i64 gb)].toArray 63 (0, 0))] := hs30
  refine ops_run 3 (by kernel_rfl) ?_
  obtain ⟨r32, h33, hm⟩ := bind_some hm
  refine ops_call (pre := []) hs31 (by kernel_rfl) (works07_walk (hG := hG) (hT := (hs31.oldCells hT)) (hm := h33) B _) ?_
  rintro _ _ w35 ⟨rfl, rfl⟩ hs36
  have hs37 : St B w [] w35 [blk b4 (.cells [(.int .i64 gw), (.int .i64 gi), (.int .i64 gb)].toArray 63 (0, 0))] := hs36
  refine ops_run 2 (by kernel_rfl) ?_
  refine ops_done (by kernel_rfl) ?_
  refine hK22 _ _ ?_
  clear hK22
  refine W.ret ?_
  have hs38 : St B w [] w35 [] := St.take (H := []) hs37
  refine ret_of (.bool r32) (by kernel_rfl) ⟨_, ⟨congrArg Value.bool (some_inj hm), rfl⟩, hs38⟩

end Go.Proofs.YthimamnblklkbaaDoor
