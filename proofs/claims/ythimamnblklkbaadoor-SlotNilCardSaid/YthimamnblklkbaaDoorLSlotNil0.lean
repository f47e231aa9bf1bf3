/- Texts, one behind the other: ALsNi, PLsNi. -/
import Derived.Test.YthimamnblklkbaaDoorQSN4
set_option linter.unusedVariables false
set_option linter.unusedSimpArgs false
set_option linter.unusedVariables false
set_option maxRecDepth 20000
set_option maxHeartbeats 4000000
namespace Go.Proofs.YthimamnblklkbaaDoor
open Go Go.RowKit
set_option linter.unusedSimpArgs false
set_option linter.unusedVariables false

def slotnil_M  : Option (Bool) :=
 if ByteArray.empty = ByteArray.empty then ((works10_M).bind fun r39 =>
some r39) else (some false)

theorem slotnil_walk {i_ : Int} {k_ : Int} {q_ : Int} {re_ : Int} {ra_ : Int} {rb_ : Int} {rs_ : ByteArray}   (B : Nat) (w : World) (hB : w.heap.size = B) (hL : CellsAt (some ⟨1, 0, none⟩) [(.int .i64 1), (.int .i64 2), (.int .i64 2)] w) (hm : slotnil_M = some true) : Spec Tryd.prog 7 #[(.int .i64 i_), (.int .i64 k_), (.int .u64 q_), (.agg #[(.int .i64 re_), (.int .u64 ra_), (.int .u64 rb_), (.string rs_)])] B w [] (fun v H' => v = .bool true ∧ H' = []) := by
 refine spec_Q Tryd.func7 rfl fun hs => ?_
 unfold slotnil_M at hm
 have hG2 : 1 < B := by rw [← hB]; exact lt_of_cells hL (v := .int .i64 1) rfl
 refine W.sr fun K1 hK1 => ?_
 refine zN [(.int .i64 re_), (.int .u64 ra_), (.int .u64 rb_), (.string rs_)] 46 hs fun b4 w2 hs3 => ?_
 refine zE 1 (hK1 _ _ ?_)
 refine W.sr fun K5 hK5 => ?_
 refine zR 1 ?_
 refine zC00 hs3 (sget_nil (hL := (hs3.oldCells hL)) (i_ := i_) B _) fun w6 hs8 => ?_
 refine zR 3 ?_
 refine zN [(.bool false), (.int .u64 0), (.int .u64 0)] 48 hs8 fun b11 w9 hs10 => ?_
 refine ops_store (off := 0) (cs := [(.bool false), (.int .u64 0), (.int .u64 0)]) (vs := [(.bool false), (.int .u64 0), (.int .u64 0)]) hs10 (by kernel_rfl) (by simp) rfl (fun w12 hs13 => ?_)
 have hs14 : St B w [] w12 [blk b11 (.cells [(.bool false), (.int .u64 0), (.int .u64 0)].toArray 48 (0, 0)), blk b4 (.cells [(.int .i64 re_), (.int .u64 ra_), (.int .u64 rb_), (.string rs_)].toArray 46 (0, 0))] := hs13
 refine zE 1 (hK5 _ _ ?_)
 refine W.sr fun K15 hK15 => ?_
 refine zR 2 ?_
 refine zC00 hs14 (sload_nil (hL := (hs14.oldCells hL)) (i_ := i_) (k_ := k_) B _) fun w16 hs18 => ?_
 refine zR 4 ?_
 refine zN [(.int .i64 0), (.int .u64 0), (.int .u64 0), (.string ByteArray.empty)] 46 hs18 fun b21 w19 hs20 => ?_
 refine zR 1 ?_
 refine ops_store (off := 0) (cs := [(.int .i64 0), (.int .u64 0), (.int .u64 0), (.string ByteArray.empty)]) (vs := [(.int .i64 0), (.int .u64 0), (.int .u64 0), (.string ByteArray.empty)]) hs20 (by kernel_rfl) (by simp) rfl (fun w22 hs23 => ?_)
 have hs24 : St B w [] w22 [blk b21 (.cells [(.int .i64 0), (.int .u64 0), (.int .u64 0), (.string ByteArray.empty)].toArray 46 (0, 0)), blk b11 (.cells [(.bool false), (.int .u64 0), (.int .u64 0)].toArray 48 (0, 0)), blk b4 (.cells [(.int .i64 re_), (.int .u64 ra_), (.int .u64 rb_), (.string rs_)].toArray 46 (0, 0))] := hs23
 refine zE 1 (hK15 _ _ ?_)
 refine W.sr fun K25 hK25 => ?_
 refine zR 3 ?_
 refine ops_R (runs_loadAgg (ad := ⟨b11, 0, none⟩) (cs := [(.bool false), (.int .u64 0), (.int .u64 0)]) (by kernel_rfl) (cells_sub (hs24.heapAt 1 rfl) rfl)) ?_
 refine zR 1 ?_
 refine ops_R (v := (.bool true)) (runs_eq (b := true) (by kernel_rfl)) ?_
 refine zR 10 ?_
 refine ops_R (runs_loadAgg (ad := ⟨b21, 0, none⟩) (cs := [(.int .i64 0), (.int .u64 0), (.int .u64 0), (.string ByteArray.empty)]) (by kernel_rfl) (cells_sub (hs24.heapAt 0 rfl) rfl)) ?_
 refine zR 1 ?_
 refine ops_R (v := (.bool (true && (true && (true && ((ByteArray.empty == ByteArray.empty) && true)))))) (runs_eq (b := (true && (true && (true && ((ByteArray.empty == ByteArray.empty) && true))))) (by kernel_rfl)) ?_
 refine zR 2 ?_
 rcases Bool.eq_false_or_eq_true (true && (true && (true && ((ByteArray.empty == ByteArray.empty) && true)))) with h26 | h26
 ·
  have h26p : ByteArray.empty = ByteArray.empty := rfl
  replace hm := ite_yes hm h26p
  refine zS 46 h26 ?_
  refine zS 44 h26 ?_
  refine zS 45 h26 ?_
  refine zR 2 ?_
  refine zC00 hs24 (sput_nil (hL := (hs24.oldCells hL)) (i_ := i_) (ho_ := false) (hg_ := 0) (hk_ := 0) B _) fun w27 hs29 => ?_
  refine zR 6 ?_
  refine ops_R (runs_loadAgg (ad := ⟨b4, 0, none⟩) (cs := [(.int .i64 re_), (.int .u64 ra_), (.int .u64 rb_), (.string rs_)]) (by kernel_rfl) (cells_sub (hs29.heapAt 2 rfl) rfl)) ?_
  refine zC00 hs29 (ssave_nil (hL := (hs29.oldCells hL)) (i_ := i_) (k_ := k_) (q_ := q_) (re_ := re_) (ra_ := ra_) (rb_ := rb_) (rs_ := rs_) B _) fun w30 hs32 => ?_
  refine zR 4 ?_
  refine zC00 hs32 (swipe_nil (hL := (hs32.oldCells hL)) (i_ := i_) B _) fun w33 hs35 => ?_
  refine zR 5 ?_
  refine zC00 hs35 (sset_spec_nil (at_ := k_) (x_ := q_) B _) fun w36 hs38 => ?_
  refine zR 3 ?_
  obtain ⟨r39, h40, hm⟩ := bind_some hm
  refine zC00 hs38 (works10_walk (hG2 := hG2) (hL := (hs38.oldCells hL)) (hm := h40) B _) fun w41 hs43 => ?_
  refine zE 2 (hK25 _ _ ?_)
  refine W.ret ?_
  have hs44 := St.tk0 hs43
  refine ret_of (.bool r39) (by kernel_rfl) ⟨_, ⟨congrArg Value.bool (some_inj hm), rfl⟩, hs44⟩
 ·
  have h26p : ¬ (ByteArray.empty = ByteArray.empty) := by simp at h26
  replace hm := ite_no hm h26p
  refine zS 46 h26 ?_
  refine zS 44 h26 ?_
  refine zS 45 h26 ?_
  refine zE 28 (hK25 _ _ ?_)
  refine W.ret ?_
  have hs45 := St.tk0 hs24
  refine ret_of (.bool false) (by kernel_rfl) ⟨_, ⟨congrArg Value.bool (some_inj hm), rfl⟩, hs45⟩

end Go.Proofs.YthimamnblklkbaaDoor

namespace Go.Proofs.YthimamnblklkbaaDoor
open Go Go.RowKit
theorem works10_end : Ok (· = true) ((works10_M).bind fun r => some r) := by
  rw [works10_eq]
  exact Ok.some rfl
theorem slotnil_law : slotnil_M = some true := Ok.true (Ok.yes rfl works10_end)
end Go.Proofs.YthimamnblklkbaaDoor
