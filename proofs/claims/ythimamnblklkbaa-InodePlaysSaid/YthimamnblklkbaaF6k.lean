/- Contracts of layers 6 and 7, by a program. -/
import Derived.Test.YthimamnblklkbaaLi
namespace Go.Proofs.Ythimamnblklkbaa
open Go Go.RowKit
set_option linter.unusedSimpArgs false
set_option linter.unusedVariables false

set_option maxRecDepth 20000 in
set_option maxHeartbeats 2000000 in
set_option linter.unusedVariables false in
theorem works12_spec  (B : Nat) (w : World) : Spec Try.prog 32 #[] B w [] (fun v H' => v = .bool true ∧ H' = []) := by
  refine spec_Q Try.func32 rfl fun hs => ?_
  refine W.seq fun K1 hK1 => ?_
  refine W.region ?_
  refine ops_run 1 (by kernel_rfl) ?_
  refine ops_done (by kernel_rfl) ?_
  refine hK1 _ _ ?_
  clear hK1
  refine W.seq fun K2 hK2 => ?_
  refine W.region ?_
  refine ops_run 1 (by kernel_rfl) ?_
  refine ops_new (fun b => .pointer (some ⟨b, 0, none⟩)) (.cells [(.int .i64 0), (.int .i64 0), (.int .i64 0)].toArray 56 (0, 0)) hs (by kernel_rfl) (fun b5 w3 hs4 => ?_)
  refine ops_store (off := 0) (cs := [(.int .i64 0), (.int .i64 0), (.int .i64 0)]) (vs := [(.int .i64 1), (.int .i64 3), (.int .i64 4)]) hs4 (by kernel_rfl) (by simp) rfl (fun w6 hs7 => ?_)
  have hs8 : St B w [] w6 [blk b5 (.cells [(.int .i64 1), (.int .i64 3), (.int .i64 4)].toArray 56 (0, 0))] := hs7
  refine ops_done (by kernel_rfl) ?_
  refine hK2 _ _ ?_
  clear hK2
  refine W.seq fun K9 hK9 => ?_
  refine W.region ?_
  refine ops_R (runs_loadAgg (ad := ⟨b5, 0, none⟩) (cs := [(.int .i64 1), (.int .i64 3), (.int .i64 4)]) (by kernel_rfl) (cells_sub (hs8.heapAt 0 rfl) rfl)) ?_
  refine ops_call (pre := []) hs8 (by kernel_rfl) (format_spec (gw := 1) (gi := 3) (gb := 4) B _) ?_
  rintro _ _ w12 ⟨a10, c11, rfl, rfl⟩ hs13
  have hs14 : St B w [] w12 [kU64.row a10 c11 (fmtW 1 3 4), blk b5 (.cells [(.int .i64 1), (.int .i64 3), (.int .i64 4)].toArray 56 (0, 0))] := hs13
  refine ops_call (pre := []) hs14 (by kernel_rfl) (new_spec (hc := (St.kcells kU64 hs14 0 rfl)) (hn := (St.capnil kU64 hs14 0 rfl)) (hsz := (by rw [fmtW_len]; have := words_le 1 3 4; omega)) B _) ?_
  rintro _ _ w16 ⟨b15, rfl, rfl⟩ hs17
  have hs18 : St B w [] w16 [viewA (ptr b15) (fmtW 1 3 4) ([]), kU64.row a10 c11 (fmtW 1 3 4), blk b5 (.cells [(.int .i64 1), (.int .i64 3), (.int .i64 4)].toArray 56 (0, 0))] := hs17
  refine ops_run 1 (by kernel_rfl) ?_
  refine ops_done (by kernel_rfl) ?_
  refine hK9 _ _ ?_
  clear hK9
  refine W.seq fun K19 hK19 => ?_
  refine W.seq fun K20 hK20 => ?_
  refine W.region ?_
  refine ops_run 2 (by kernel_rfl) ?_
  refine ops_done (by kernel_rfl) ?_
  refine hK20 _ _ ?_
  clear hK20
  refine W.cond_false false (by kernel_rfl) rfl ?_
  refine W.skip ?_
  refine hK19 _ _ ?_
  clear hK19
  refine W.seq fun K21 hK21 => ?_
  refine W.region ?_
  refine ops_run 1 (by kernel_rfl) ?_
  refine ops_R (runs_loadAgg (ad := ⟨b5, 0, none⟩) (cs := [(.int .i64 1), (.int .i64 3), (.int .i64 4)]) (by kernel_rfl) (cells_sub (hs18.heapAt 2 rfl) rfl)) ?_
  refine ops_call (pre := []) hs18 (by kernel_rfl) (ig_eq (he := w12a) (hv := (hs18.entAt 0 rfl viewA_at)) B _) ?_
  rintro _ _ w22 ⟨rfl, rfl⟩ hs23
  have hs24 : St B w [] w22 [viewA (ptr b15) (fmtW 1 3 4) ([]), kU64.row a10 c11 (fmtW 1 3 4), blk b5 (.cells [(.int .i64 1), (.int .i64 3), (.int .i64 4)].toArray 56 (0, 0))] := hs23
  refine ops_run 3 (by kernel_rfl) ?_
  refine ops_new (fun b => .pointer (some ⟨b, 0, none⟩)) (.cells [(.int .u64 0), (.int .u64 0), (.int .u64 0), (.int .u64 0), (.int .u64 0), (.int .u64 0), (.int .u64 0), (.int .u64 0), (.int .u64 0), (.int .u64 0)].toArray 54 (0, 0)) hs24 (by kernel_rfl) (fun b27 w25 hs26 => ?_)
  refine ops_store (off := 0) (cs := [(.int .u64 0), (.int .u64 0), (.int .u64 0), (.int .u64 0), (.int .u64 0), (.int .u64 0), (.int .u64 0), (.int .u64 0), (.int .u64 0), (.int .u64 0)]) (vs := [(.int .u64 2), (.int .u64 1), (.int .u64 0), (.int .u64 0), (.int .u64 0), (.int .u64 0), (.int .u64 0), (.int .u64 0), (.int .u64 0), (.int .u64 0)]) hs26 (by kernel_rfl) (by simp) rfl (fun w28 hs29 => ?_)
  have hs30 : St B w [] w28 [blk b27 (.cells [(.int .u64 2), (.int .u64 1), (.int .u64 0), (.int .u64 0), (.int .u64 0), (.int .u64 0), (.int .u64 0), (.int .u64 0), (.int .u64 0), (.int .u64 0)].toArray 54 (0, 0)), viewA (ptr b15) (fmtW 1 3 4) ([]), kU64.row a10 c11 (fmtW 1 3 4), blk b5 (.cells [(.int .i64 1), (.int .i64 3), (.int .i64 4)].toArray 56 (0, 0))] := hs29
  refine ops_run 1 (by kernel_rfl) ?_
  refine ops_done (by kernel_rfl) ?_
  refine hK21 _ _ ?_
  clear hK21
  refine W.seq fun K31 hK31 => ?_
  refine W.region ?_
  refine ops_run 1 (by kernel_rfl) ?_
  refine ops_R (runs_loadAgg (ad := ⟨b5, 0, none⟩) (cs := [(.int .i64 1), (.int .i64 3), (.int .i64 4)]) (by kernel_rfl) (cells_sub (hs30.heapAt 3 rfl) rfl)) ?_
  refine ops_call (pre := []) hs30 (by kernel_rfl) (ig_eq (he := w12b) (hv := (hs30.entAt 1 rfl viewA_at)) B _) ?_
  rintro _ _ w32 ⟨rfl, rfl⟩ hs33
  have hs34 : St B w [] w32 [blk b27 (.cells [(.int .u64 2), (.int .u64 1), (.int .u64 0), (.int .u64 0), (.int .u64 0), (.int .u64 0), (.int .u64 0), (.int .u64 0), (.int .u64 0), (.int .u64 0)].toArray 54 (0, 0)), viewA (ptr b15) (fmtW 1 3 4) ([]), kU64.row a10 c11 (fmtW 1 3 4), blk b5 (.cells [(.int .i64 1), (.int .i64 3), (.int .i64 4)].toArray 56 (0, 0))] := hs33
  refine ops_run 3 (by kernel_rfl) ?_
  refine ops_new (fun b => .pointer (some ⟨b, 0, none⟩)) (.cells [(.int .u64 0), (.int .u64 0), (.int .u64 0), (.int .u64 0), (.int .u64 0), (.int .u64 0), (.int .u64 0), (.int .u64 0), (.int .u64 0), (.int .u64 0)].toArray 54 (0, 0)) hs34 (by kernel_rfl) (fun b37 w35 hs36 => ?_)
  refine ops_store (off := 0) (cs := [(.int .u64 0), (.int .u64 0), (.int .u64 0), (.int .u64 0), (.int .u64 0), (.int .u64 0), (.int .u64 0), (.int .u64 0), (.int .u64 0), (.int .u64 0)]) (vs := [(.int .u64 0), (.int .u64 0), (.int .u64 0), (.int .u64 0), (.int .u64 0), (.int .u64 0), (.int .u64 0), (.int .u64 0), (.int .u64 0), (.int .u64 0)]) hs36 (by kernel_rfl) (by simp) rfl (fun w38 hs39 => ?_)
  have hs40 : St B w [] w38 [blk b37 (.cells [(.int .u64 0), (.int .u64 0), (.int .u64 0), (.int .u64 0), (.int .u64 0), (.int .u64 0), (.int .u64 0), (.int .u64 0), (.int .u64 0), (.int .u64 0)].toArray 54 (0, 0)), blk b27 (.cells [(.int .u64 2), (.int .u64 1), (.int .u64 0), (.int .u64 0), (.int .u64 0), (.int .u64 0), (.int .u64 0), (.int .u64 0), (.int .u64 0), (.int .u64 0)].toArray 54 (0, 0)), viewA (ptr b15) (fmtW 1 3 4) ([]), kU64.row a10 c11 (fmtW 1 3 4), blk b5 (.cells [(.int .i64 1), (.int .i64 3), (.int .i64 4)].toArray 56 (0, 0))] := hs39
  refine ops_run 1 (by kernel_rfl) ?_
  refine ops_done (by kernel_rfl) ?_
  refine hK31 _ _ ?_
  clear hK31
  refine W.seq fun K41 hK41 => ?_
  refine W.region ?_
  refine ops_run 1 (by kernel_rfl) ?_
  refine ops_R (runs_loadAgg (ad := ⟨b5, 0, none⟩) (cs := [(.int .i64 1), (.int .i64 3), (.int .i64 4)]) (by kernel_rfl) (cells_sub (hs40.heapAt 4 rfl) rfl)) ?_
  refine ops_run 1 (by kernel_rfl) ?_
  have hs42 : St B w [] w38 [viewA (ptr b15) (fmtW 1 3 4) ([]), blk b37 (.cells [(.int .u64 0), (.int .u64 0), (.int .u64 0), (.int .u64 0), (.int .u64 0), (.int .u64 0), (.int .u64 0), (.int .u64 0), (.int .u64 0), (.int .u64 0)].toArray 54 (0, 0)), blk b27 (.cells [(.int .u64 2), (.int .u64 1), (.int .u64 0), (.int .u64 0), (.int .u64 0), (.int .u64 0), (.int .u64 0), (.int .u64 0), (.int .u64 0), (.int .u64 0)].toArray 54 (0, 0)), kU64.row a10 c11 (fmtW 1 3 4), blk b5 (.cells [(.int .i64 1), (.int .i64 3), (.int .i64 4)].toArray 56 (0, 0))] := hs40.front 2 (by simp)
  refine ops_call (pre := [viewA (ptr b15) (fmtW 1 3 4) ([])]) hs42 (by kernel_rfl) (ip_eq (b := b15) (he := w12c) B _) ?_
  rintro _ _ w43 ⟨rfl, rfl⟩ hs44
  have hs45 : St B w [] w43 [viewA (ptr b15) (fmtW 1 3 4) ([(520, 1), (521, 1)]), blk b37 (.cells [(.int .u64 0), (.int .u64 0), (.int .u64 0), (.int .u64 0), (.int .u64 0), (.int .u64 0), (.int .u64 0), (.int .u64 0), (.int .u64 0), (.int .u64 0)].toArray 54 (0, 0)), blk b27 (.cells [(.int .u64 2), (.int .u64 1), (.int .u64 0), (.int .u64 0), (.int .u64 0), (.int .u64 0), (.int .u64 0), (.int .u64 0), (.int .u64 0), (.int .u64 0)].toArray 54 (0, 0)), kU64.row a10 c11 (fmtW 1 3 4), blk b5 (.cells [(.int .i64 1), (.int .i64 3), (.int .i64 4)].toArray 56 (0, 0))] := hs44
  refine ops_run 1 (by kernel_rfl) ?_
  refine ops_done (by kernel_rfl) ?_
  refine hK41 _ _ ?_
  clear hK41
  refine W.seq fun K46 hK46 => ?_
  refine W.region ?_
  refine ops_run 1 (by kernel_rfl) ?_
  refine ops_R (runs_loadAgg (ad := ⟨b5, 0, none⟩) (cs := [(.int .i64 1), (.int .i64 3), (.int .i64 4)]) (by kernel_rfl) (cells_sub (hs45.heapAt 4 rfl) rfl)) ?_
  refine ops_call (pre := []) hs45 (by kernel_rfl) (ig_eq (he := w12d) (hv := (hs45.entAt 0 rfl viewA_at)) B _) ?_
  rintro _ _ w47 ⟨rfl, rfl⟩ hs48
  have hs49 : St B w [] w47 [viewA (ptr b15) (fmtW 1 3 4) ([(520, 1), (521, 1)]), blk b37 (.cells [(.int .u64 0), (.int .u64 0), (.int .u64 0), (.int .u64 0), (.int .u64 0), (.int .u64 0), (.int .u64 0), (.int .u64 0), (.int .u64 0), (.int .u64 0)].toArray 54 (0, 0)), blk b27 (.cells [(.int .u64 2), (.int .u64 1), (.int .u64 0), (.int .u64 0), (.int .u64 0), (.int .u64 0), (.int .u64 0), (.int .u64 0), (.int .u64 0), (.int .u64 0)].toArray 54 (0, 0)), kU64.row a10 c11 (fmtW 1 3 4), blk b5 (.cells [(.int .i64 1), (.int .i64 3), (.int .i64 4)].toArray 56 (0, 0))] := hs48
  refine ops_run 3 (by kernel_rfl) ?_
  refine ops_new (fun b => .pointer (some ⟨b, 0, none⟩)) (.cells [(.int .u64 0), (.int .u64 0), (.int .u64 0), (.int .u64 0), (.int .u64 0), (.int .u64 0), (.int .u64 0), (.int .u64 0), (.int .u64 0), (.int .u64 0)].toArray 54 (0, 0)) hs49 (by kernel_rfl) (fun b52 w50 hs51 => ?_)
  refine ops_store (off := 0) (cs := [(.int .u64 0), (.int .u64 0), (.int .u64 0), (.int .u64 0), (.int .u64 0), (.int .u64 0), (.int .u64 0), (.int .u64 0), (.int .u64 0), (.int .u64 0)]) (vs := [(.int .u64 0), (.int .u64 0), (.int .u64 0), (.int .u64 0), (.int .u64 0), (.int .u64 0), (.int .u64 0), (.int .u64 0), (.int .u64 0), (.int .u64 0)]) hs51 (by kernel_rfl) (by simp) rfl (fun w53 hs54 => ?_)
  have hs55 : St B w [] w53 [blk b52 (.cells [(.int .u64 0), (.int .u64 0), (.int .u64 0), (.int .u64 0), (.int .u64 0), (.int .u64 0), (.int .u64 0), (.int .u64 0), (.int .u64 0), (.int .u64 0)].toArray 54 (0, 0)), viewA (ptr b15) (fmtW 1 3 4) ([(520, 1), (521, 1)]), blk b37 (.cells [(.int .u64 0), (.int .u64 0), (.int .u64 0), (.int .u64 0), (.int .u64 0), (.int .u64 0), (.int .u64 0), (.int .u64 0), (.int .u64 0), (.int .u64 0)].toArray 54 (0, 0)), blk b27 (.cells [(.int .u64 2), (.int .u64 1), (.int .u64 0), (.int .u64 0), (.int .u64 0), (.int .u64 0), (.int .u64 0), (.int .u64 0), (.int .u64 0), (.int .u64 0)].toArray 54 (0, 0)), kU64.row a10 c11 (fmtW 1 3 4), blk b5 (.cells [(.int .i64 1), (.int .i64 3), (.int .i64 4)].toArray 56 (0, 0))] := hs54
  refine ops_run 1 (by kernel_rfl) ?_
  refine ops_done (by kernel_rfl) ?_
  refine hK46 _ _ ?_
  clear hK46
  refine W.seq fun K56 hK56 => ?_
  refine W.region ?_
  refine ops_run 3 (by kernel_rfl) ?_
  refine ops_R (runs_loadAgg (ad := ⟨b27, 0, none⟩) (cs := [(.int .u64 2), (.int .u64 1), (.int .u64 0), (.int .u64 0), (.int .u64 0), (.int .u64 0), (.int .u64 0), (.int .u64 0), (.int .u64 0), (.int .u64 0)]) (by kernel_rfl) (cells_sub (hs55.heapAt 3 rfl) rfl)) ?_
  refine ops_run 1 (by kernel_rfl) ?_
  refine ops_R (v := (.bool true)) (runs_eq (b := true) (by kernel_rfl)) ?_
  refine ops_run 11 (by kernel_rfl) ?_
  refine ops_call (pre := []) hs55 (by kernel_rfl) (writes_spec (hv := (hs55.entAt 1 rfl viewA_at)) B _) ?_
  rintro _ _ w59 ⟨a57, c58, rfl, rfl⟩ hs60
  have hs61 : St B w [] w59 [kWr.row a57 c58 ([(520, 1), (521, 1)]), blk b52 (.cells [(.int .u64 0), (.int .u64 0), (.int .u64 0), (.int .u64 0), (.int .u64 0), (.int .u64 0), (.int .u64 0), (.int .u64 0), (.int .u64 0), (.int .u64 0)].toArray 54 (0, 0)), viewA (ptr b15) (fmtW 1 3 4) ([(520, 1), (521, 1)]), blk b37 (.cells [(.int .u64 0), (.int .u64 0), (.int .u64 0), (.int .u64 0), (.int .u64 0), (.int .u64 0), (.int .u64 0), (.int .u64 0), (.int .u64 0), (.int .u64 0)].toArray 54 (0, 0)), blk b27 (.cells [(.int .u64 2), (.int .u64 1), (.int .u64 0), (.int .u64 0), (.int .u64 0), (.int .u64 0), (.int .u64 0), (.int .u64 0), (.int .u64 0), (.int .u64 0)].toArray 54 (0, 0)), kU64.row a10 c11 (fmtW 1 3 4), blk b5 (.cells [(.int .i64 1), (.int .i64 3), (.int .i64 4)].toArray 56 (0, 0))] := hs60
  refine ops_run 8 (by kernel_rfl) ?_
  refine ops_done (by kernel_rfl) ?_
  refine hK56 _ _ ?_
  clear hK56
  refine W.ret ?_
  have hs62 : St B w [] w59 [] := St.take (H := []) hs61
  refine ret_of (.bool true) (by kernel_rfl) ⟨_, ⟨rfl, rfl⟩, hs62⟩

end Go.Proofs.Ythimamnblklkbaa
