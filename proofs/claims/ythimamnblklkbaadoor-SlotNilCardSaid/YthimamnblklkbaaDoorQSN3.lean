/- Texts, one behind the other: A0f, A0l, A0n, A0r, F7a, Lv, A0w, P0w, K11, K10, Lo, LoS, Ro10, ClA, ClB, ClC, ClD, ClE, A0g, A0h, Pu. -/
import Derived.Test.YthimamnblklkbaaDoorRows
import Derived.Test.YthimamnblklkbaaDoorCards
import Derived.OpenShut
import Derived.Test.YthimamnblklkbaaDoorChecked
import Derived.Test.YthimamnblklkbaaDoorQSN2
set_option linter.unusedVariables false
set_option linter.unusedSimpArgs false
set_option linter.unusedVariables false
set_option maxRecDepth 20000
set_option maxHeartbeats 2000000
namespace Go.Proofs.YthimamnblklkbaaDoor
open Go Go.RowKit
set_option linter.unusedSimpArgs false
set_option linter.unusedVariables false

def sload_J2 (img : List Int) (l : List (Int × Int)) (r6 : Int × Int) (r31 : Int) (r33 : Int) (p36 : Bool) : Option (Int × Int × Int × Int × ByteArray × Int) :=
 if p36 = true then (some (0, 0, 0, 0, ByteArray.empty, 4)) else (need (-9223372036854775808 ≤ (r6.1 + 4) ∧ (r6.1 + 4) ≤ 9223372036854775807) <|
need (-9223372036854775808 ≤ (r6.1 + 5) ∧ (r6.1 + 5) ≤ 9223372036854775807) <|
need (-9223372036854775808 ≤ (r6.1 + 6) ∧ (r6.1 + 6) ≤ 9223372036854775807) <|
need (-9223372036854775808 ≤ (r6.1 + 7) ∧ (r6.1 + 7) ≤ 9223372036854775807) <|
need (-9223372036854775808 ≤ (r6.1 + 8) ∧ (r6.1 + 8) ≤ 9223372036854775807) <|
need (-9223372036854775808 ≤ (r6.1 + 9) ∧ (r6.1 + 9) ≤ 9223372036854775807) <|
need (-9223372036854775808 ≤ (r6.1 + 10) ∧ (r6.1 + 10) ≤ 9223372036854775807) <|
need (-9223372036854775808 ≤ (r6.1 + 11) ∧ (r6.1 + 11) ≤ 9223372036854775807) <|
need (-9223372036854775808 ≤ r33 ∧ r33 ≤ 9223372036854775807) <|
(unpack_M ([(vget img l (r6.1 + 4)), (vget img l (r6.1 + 5)), (vget img l (r6.1 + 6)), (vget img l (r6.1 + 7)), (vget img l (r6.1 + 8)), (vget img l (r6.1 + 9)), (vget img l (r6.1 + 10)), (vget img l (r6.1 + 11))]) r33).bind fun r180 =>
if r180.2 = 0 then (need (-9223372036854775808 ≤ r31 ∧ r31 ≤ 9223372036854775807) <|
need (-9223372036854775808 ≤ (r6.1 + 2) ∧ (r6.1 + 2) ≤ 9223372036854775807) <|
need (-9223372036854775808 ≤ (r6.1 + 3) ∧ (r6.1 + 3) ≤ 9223372036854775807) <|
some ((vget img l r6.1), r31, (vget img l (r6.1 + 2)), (vget img l (r6.1 + 3)), r180.1, 0)) else (some (0, 0, 0, 0, ByteArray.empty, r180.2)))

def sload_J1 (img : List Int) (l : List (Int × Int)) (r6 : Int × Int) (p12 : Bool) : Option (Int × Int × Int × Int × ByteArray × Int) :=
 if p12 = true then (some (0, 0, 0, 0, ByteArray.empty, r6.2)) else (need (-9223372036854775808 ≤ (r6.1 + 1) ∧ (r6.1 + 1) ≤ 9223372036854775807) <|
need (-9223372036854775808 ≤ (r6.1 + 1) ∧ (r6.1 + 1) ≤ 9223372036854775807) <|
need (0 ≤ ((vget img l (r6.1 + 1)).tdiv 256) ∧ ((vget img l (r6.1 + 1)).tdiv 256) ≤ 18446744073709551615) <|
(some ((vget img l (r6.1 + 1)).tmod 256)).bind fun r31 =>
(some ((vget img l (r6.1 + 1)).tdiv 256)).bind fun r33 =>
if r31 > 24 then (sload_J2 img l r6 r31 r33 true) else (sload_J2 img l r6 r31 r33 (decide (r33 > 64))))

def sload_M (img : List Int) (l : List (Int × Int)) (i_ : Int) (k_ : Int) : Option (Int × Int × Int × Int × ByteArray × Int) :=
 (sfind_M img i_ k_).bind fun r6 =>
if r6.2 = 0 then (sload_J1 img l r6 (decide ((vget img l r6.1) = 0))) else (sload_J1 img l r6 true)

theorem sload_walk {img : List Int} {l : List (Int × Int)} {i_ : Int} {k_ : Int} {vb : Nat} {r : Int × Int × Int × Int × ByteArray × Int} (B : Nat) (w : World) (hL : CellsAt (some ⟨1, 0, none⟩) [(.int .i64 1), (.int .i64 2), (.int .i64 2)] w) (hv : ViewAt (ptr vb) img l w) (hm : sload_M img l i_ k_ = some r) : Spec Tryd.prog 31 #[(.pointer (some ⟨vb, 0, none⟩)), (.int .i64 i_), (.int .i64 k_)] B w [] (fun v H' => v = (.tuple #[(.int .u64 r.1), (.agg #[(.int .i64 r.2.1), (.int .u64 r.2.2.1), (.int .u64 r.2.2.2.1), (.string r.2.2.2.2.1)]), (.int .i64 r.2.2.2.2.2)]) ∧ H' = []) := by
 refine spec_Q Tryd.func31 rfl fun hs => ?_
 unfold sload_M at hm
 refine W.sr fun K1 hK1 => ?_
 refine zR 1 ?_
 refine zN [(.int .i64 0), (.int .u64 0), (.int .u64 0), (.string ByteArray.empty)] 46 hs fun b4 w2 hs3 => ?_
 refine zE 1 (hK1 _ _ ?_)
 refine W.sr fun K5 hK5 => ?_
 refine zR 3 ?_
 obtain ⟨r6, h7, hm⟩ := bind_some hm
 refine zC00 hs3 (sfind_walk (i_ := i_) (k_ := k_) (img := img) (l := l) (hL := (hs3.oldCells hL)) (hv := (viewAt_old hs3 hv)) (hm := h7) B _) fun w8 hs10 => ?_
 refine zE 5 (hK5 _ _ ?_)
 refine W.seq fun K11 hK11 => ?_
 refine W.seq_join (fun s_ w_ => ∃ (p12 : Bool), (∃ us, s_ = slots 87 [(0, (.pointer (some ⟨vb, 0, none⟩))), (7, (.pointer (some ⟨b4, 0, none⟩))), (8, (.int .i64 r6.2)), (9, (.int .i64 r6.1)), (29, (.bool p12))] us) ∧ St B w [] w_ [blk b4 (.cells [(.int .i64 0), (.int .u64 0), (.int .u64 0), (.string ByteArray.empty)].toArray 46 (0, 0))] ∧ sload_J1 img l r6 p12 = some r) ?_ ?_
 ·
  rintro _ w13 ⟨p12, ⟨us, rfl⟩, hs14, hm⟩
  unfold sload_J1 at hm
  refine W.cond p12 (by kernel_rfl) (fun h15 => ?_) (fun h15 => ?_)
  ·
   have h15p : p12 = true := h15
   replace hm := ite_yes hm h15p
   refine W.sr fun K16 hK16 => ?_
   refine zR 3 ?_
   refine ops_store (off := 0) (cs := [(.int .i64 0), (.int .u64 0), (.int .u64 0), (.string ByteArray.empty)]) (vs := [(.int .i64 0), (.int .u64 0), (.int .u64 0), (.string ByteArray.empty)]) hs14 (by kernel_rfl) (by simp) rfl (fun w17 hs18 => ?_)
   have hs19 : St B w [] w17 [blk b4 (.cells [(.int .i64 0), (.int .u64 0), (.int .u64 0), (.string ByteArray.empty)].toArray 46 (0, 0))] := hs18
   refine zE 1 (hK16 _ _ ?_)
   refine W.ret (ret_seq ?_)
   obtain rfl := some_inj hm
   have hs20 := St.tk0 hs19
   refine ret_of (.tuple #[(.int .u64 0), (.agg #[(.int .i64 0), (.int .u64 0), (.int .u64 0), (.string ByteArray.empty)]), (.int .i64 r6.2)]) (resS_of (by kernel_rfl) (resD_three rfl (.tmp (by kernel_rfl)) (.agg (ad := ⟨b4, 0, none⟩) (cs := [(.int .i64 0), (.int .u64 0), (.int .u64 0), (.string ByteArray.empty)]) (by kernel_rfl) (by kernel_rfl) (cells_sub (hs19.heapAt 0 rfl) rfl)) (.tmp (by kernel_rfl)))) ⟨_, ⟨rfl, rfl⟩, hs20⟩
  ·
   have h15p : ¬ (p12 = true) := ne_true_of_eq_false h15
   replace hm := ite_no hm h15p
   refine W.skip ?_
   refine hK11 _ _ ?_
   refine W.sr fun K21 hK21 => ?_
   refine zR 2 ?_
   obtain ⟨h22, hm⟩ := need_some hm
   refine zI _ (wrap_i64 h22.1 h22.2) ?_
   refine zC00 hs14 (get_spec (at_ := (r6.1 + 1)) (hv := (viewAt_old hs14 hv)) B _) fun w23 hs25 => ?_
   refine zR 3 ?_
   obtain ⟨h26, hm⟩ := need_some hm
   refine zI _ (wrap_i64 h26.1 h26.2) ?_
   refine zC00 hs25 (get_spec (at_ := (r6.1 + 1)) (hv := (viewAt_old hs25 hv)) B _) fun w27 hs29 => ?_
   obtain ⟨h30, hm⟩ := need_some hm
   refine ops_R (v := .int .u64 ((vget img l (r6.1 + 1)).tdiv 256)) (runs_quo (k := .u64) (a := (vget img l (r6.1 + 1))) (b := 256) (by kernel_rfl) (by decide) (wrap_u64 h30.1 (Int.lt_of_le_of_lt h30.2 (by decide)))) ?_
   refine zR 1 ?_
   obtain ⟨r31, h32, hm⟩ := bind_some hm
   replace h32 := some_inj h32
   refine ops_set 10 (v := .int .u64 r31) (Eq.trans (by kernel_rfl) (congrArg (Value.int .u64) h32)) ?_
   refine zR 1 ?_
   obtain ⟨r33, h34, hm⟩ := bind_some hm
   replace h34 := some_inj h34
   refine ops_set 11 (v := .int .u64 r33) (Eq.trans (by kernel_rfl) (congrArg (Value.int .u64) h34)) ?_
   refine zD (hK21 _ _ ?_)
   refine W.seq fun K35 hK35 => ?_
   refine W.seq_join (fun s_ w_ => ∃ (p36 : Bool), (∃ us, s_ = slots 87 [(0, (.pointer (some ⟨vb, 0, none⟩))), (7, (.pointer (some ⟨b4, 0, none⟩))), (9, (.int .i64 r6.1)), (10, (.int .u64 r31)), (11, (.int .u64 r33)), (47, (.bool p36))] us) ∧ St B w [] w_ [blk b4 (.cells [(.int .i64 0), (.int .u64 0), (.int .u64 0), (.string ByteArray.empty)].toArray 46 (0, 0))] ∧ sload_J2 img l r6 r31 r33 p36 = some r) ?_ ?_
   ·
    rintro _ w37 ⟨p36, ⟨us, rfl⟩, hs38, hm⟩
    unfold sload_J2 at hm
    refine W.cond p36 (by kernel_rfl) (fun h39 => ?_) (fun h39 => ?_)
    ·
     have h39p : p36 = true := h39
     replace hm := ite_yes hm h39p
     refine W.sr fun K40 hK40 => ?_
     refine zR 2 ?_
     refine ops_store (off := 0) (cs := [(.int .i64 0), (.int .u64 0), (.int .u64 0), (.string ByteArray.empty)]) (vs := [(.int .i64 0), (.int .u64 0), (.int .u64 0), (.string ByteArray.empty)]) hs38 (by kernel_rfl) (by simp) rfl (fun w41 hs42 => ?_)
     have hs43 : St B w [] w41 [blk b4 (.cells [(.int .i64 0), (.int .u64 0), (.int .u64 0), (.string ByteArray.empty)].toArray 46 (0, 0))] := hs42
     refine zE 1 (hK40 _ _ ?_)
     refine W.ret (ret_seq ?_)
     obtain rfl := some_inj hm
     have hs44 := St.tk0 hs43
     refine ret_of (.tuple #[(.int .u64 0), (.agg #[(.int .i64 0), (.int .u64 0), (.int .u64 0), (.string ByteArray.empty)]), (.int .i64 4)]) (resS_of (by kernel_rfl) (resD_three rfl (.tmp (by kernel_rfl)) (.agg (ad := ⟨b4, 0, none⟩) (cs := [(.int .i64 0), (.int .u64 0), (.int .u64 0), (.string ByteArray.empty)]) (by kernel_rfl) (by kernel_rfl) (cells_sub (hs43.heapAt 0 rfl) rfl)) (.tmp (by kernel_rfl)))) ⟨_, ⟨rfl, rfl⟩, hs44⟩
    ·
     have h39p : ¬ (p36 = true) := ne_true_of_eq_false h39
     replace hm := ite_no hm h39p
     refine W.skip ?_
     refine hK35 _ _ ?_
     refine W.sr fun K45 hK45 => ?_
     refine zE 1 (hK45 _ _ ?_)
     refine W.seq fun K46 hK46 => ?_
     refine W.sr fun K47 hK47 => ?_
     refine zE 1 (hK47 _ _ ?_)
     refine W.block ?_
     refine W.loop_start ?_
     refine loopAt_round ?_
     refine W.seq fun K48 hK48 => ?_
     refine W.sr fun K49 hK49 => ?_
     refine zE 2 (hK49 _ _ ?_)
     refine W.cond_true true (by kernel_rfl) rfl ?_
     refine W.skip ?_
     refine hK48 _ _ ?_
     refine W.seq fun K50 hK50 => ?_
     refine W.block ?_
     refine W.region ?_
     refine zR 4 ?_
     obtain ⟨h51, hm⟩ := need_some hm
     refine zI _ (wrap_i64 h51.1 h51.2) ?_
     refine zC00 hs38 (get_spec (at_ := (r6.1 + 4)) (hv := (viewAt_old hs38 hv)) B _) fun w52 hs54 => ?_
     refine ops_new (fun b => .slice (some ⟨b, 0, none⟩) 1 1) (.cells [(.int .u64 (vget img l (r6.1 + 4)))].toArray 38 (0, 0)) hs54 (by kernel_rfl) (fun b57 w55 hs56 => ?_)
     have hs58 := St.knil kU64 hs56
     refine ops_appendK kU64 (bytes := 8) (a' := (some ⟨b57, 0, none⟩)) (c' := 1) (l := []) (m := [(vget img l (r6.1 + 4))]) hs58 (by kernel_rfl) (by simp) (cells_blk (hs58.heapAt 1 rfl)) (by (unfold maxLen; try simp) <;> omega) (by (try simp) <;> omega) (fun a59 c60 w61 hs62 => ?_)
     have hs63 : St B w [] w61 [kU64.row a59 c60 ([(vget img l (r6.1 + 4))]), blk b57 (.cells [(.int .u64 (vget img l (r6.1 + 4)))].toArray 38 (0, 0)), blk b4 (.cells [(.int .i64 0), (.int .u64 0), (.int .u64 0), (.string ByteArray.empty)].toArray 46 (0, 0))] := hs62
     refine zE 1 ?_
     refine normal_block ?_
     refine hK50 _ _ ?_
     refine W.region ?_
     refine zE 3 ?_
     refine loopAt_next ?_
     refine loopAt_round ?_
     refine W.seq fun K64 hK64 => ?_
     refine W.sr fun K65 hK65 => ?_
     refine zE 2 (hK65 _ _ ?_)
     refine W.cond_true true (by kernel_rfl) rfl ?_
     refine W.skip ?_
     refine hK64 _ _ ?_
     refine W.seq fun K66 hK66 => ?_
     refine W.block ?_
     refine W.region ?_
     refine zR 4 ?_
     obtain ⟨h67, hm⟩ := need_some hm
     refine zI _ (wrap_i64 h67.1 h67.2) ?_
     refine zC00 hs63 (get_spec (at_ := (r6.1 + 5)) (hv := (viewAt_old hs63 hv)) B _) fun w68 hs70 => ?_
     refine ops_new (fun b => .slice (some ⟨b, 0, none⟩) 1 1) (.cells [(.int .u64 (vget img l (r6.1 + 5)))].toArray 38 (0, 0)) hs70 (by kernel_rfl) (fun b73 w71 hs72 => ?_)
     have hs74 := St.f1 hs72
     refine ops_appendK kU64 (bytes := 8) (a' := (some ⟨b73, 0, none⟩)) (c' := 1) (l := [(vget img l (r6.1 + 4))]) (m := [(vget img l (r6.1 + 5))]) hs74 (by kernel_rfl) (by simp) (cells_blk (hs74.heapAt 1 rfl)) (by unfold maxLen; (try simp only [List.length_cons, List.length_nil]); omega) (by (try simp only [List.length_cons, List.length_nil]); omega) (fun a75 c76 w77 hs78 => ?_)
     have hs79 : St B w [] w77 [kU64.row a75 c76 ([(vget img l (r6.1 + 4)), (vget img l (r6.1 + 5))]), blk b73 (.cells [(.int .u64 (vget img l (r6.1 + 5)))].toArray 38 (0, 0)), blk b57 (.cells [(.int .u64 (vget img l (r6.1 + 4)))].toArray 38 (0, 0)), blk b4 (.cells [(.int .i64 0), (.int .u64 0), (.int .u64 0), (.string ByteArray.empty)].toArray 46 (0, 0))] := hs78
     refine zE 1 ?_
     refine normal_block ?_
     refine hK66 _ _ ?_
     refine W.region ?_
     refine zE 3 ?_
     refine loopAt_next ?_
     refine loopAt_round ?_
     refine W.seq fun K80 hK80 => ?_
     refine W.sr fun K81 hK81 => ?_
     refine zE 2 (hK81 _ _ ?_)
     refine W.cond_true true (by kernel_rfl) rfl ?_
     refine W.skip ?_
     refine hK80 _ _ ?_
     refine W.seq fun K82 hK82 => ?_
     refine W.block ?_
     refine W.region ?_
     refine zR 4 ?_
     obtain ⟨h83, hm⟩ := need_some hm
     refine zI _ (wrap_i64 h83.1 h83.2) ?_
     refine zC00 hs79 (get_spec (at_ := (r6.1 + 6)) (hv := (viewAt_old hs79 hv)) B _) fun w84 hs86 => ?_
     refine ops_new (fun b => .slice (some ⟨b, 0, none⟩) 1 1) (.cells [(.int .u64 (vget img l (r6.1 + 6)))].toArray 38 (0, 0)) hs86 (by kernel_rfl) (fun b89 w87 hs88 => ?_)
     have hs90 := St.f1 hs88
     refine ops_appendK kU64 (bytes := 8) (a' := (some ⟨b89, 0, none⟩)) (c' := 1) (l := [(vget img l (r6.1 + 4)), (vget img l (r6.1 + 5))]) (m := [(vget img l (r6.1 + 6))]) hs90 (by kernel_rfl) (by simp) (cells_blk (hs90.heapAt 1 rfl)) (by unfold maxLen; (try simp only [List.length_cons, List.length_nil]); omega) (by (try simp only [List.length_cons, List.length_nil]); omega) (fun a91 c92 w93 hs94 => ?_)
     have hs95 : St B w [] w93 [kU64.row a91 c92 ([(vget img l (r6.1 + 4)), (vget img l (r6.1 + 5)), (vget img l (r6.1 + 6))]), blk b89 (.cells [(.int .u64 (vget img l (r6.1 + 6)))].toArray 38 (0, 0)), blk b73 (.cells [(.int .u64 (vget img l (r6.1 + 5)))].toArray 38 (0, 0)), blk b57 (.cells [(.int .u64 (vget img l (r6.1 + 4)))].toArray 38 (0, 0)), blk b4 (.cells [(.int .i64 0), (.int .u64 0), (.int .u64 0), (.string ByteArray.empty)].toArray 46 (0, 0))] := hs94
     refine zE 1 ?_
     refine normal_block ?_
     refine hK82 _ _ ?_
     refine W.region ?_
     refine zE 3 ?_
     refine loopAt_next ?_
     refine loopAt_round ?_
     refine W.seq fun K96 hK96 => ?_
     refine W.sr fun K97 hK97 => ?_
     refine zE 2 (hK97 _ _ ?_)
     refine W.cond_true true (by kernel_rfl) rfl ?_
     refine W.skip ?_
     refine hK96 _ _ ?_
     refine W.seq fun K98 hK98 => ?_
     refine W.block ?_
     refine W.region ?_
     refine zR 4 ?_
     obtain ⟨h99, hm⟩ := need_some hm
     refine zI _ (wrap_i64 h99.1 h99.2) ?_
     refine zC00 hs95 (get_spec (at_ := (r6.1 + 7)) (hv := (viewAt_old hs95 hv)) B _) fun w100 hs102 => ?_
     refine ops_new (fun b => .slice (some ⟨b, 0, none⟩) 1 1) (.cells [(.int .u64 (vget img l (r6.1 + 7)))].toArray 38 (0, 0)) hs102 (by kernel_rfl) (fun b105 w103 hs104 => ?_)
     have hs106 := St.f1 hs104
     refine ops_appendK kU64 (bytes := 8) (a' := (some ⟨b105, 0, none⟩)) (c' := 1) (l := [(vget img l (r6.1 + 4)), (vget img l (r6.1 + 5)), (vget img l (r6.1 + 6))]) (m := [(vget img l (r6.1 + 7))]) hs106 (by kernel_rfl) (by simp) (cells_blk (hs106.heapAt 1 rfl)) (by unfold maxLen; (try simp only [List.length_cons, List.length_nil]); omega) (by (try simp only [List.length_cons, List.length_nil]); omega) (fun a107 c108 w109 hs110 => ?_)
     have hs111 : St B w [] w109 [kU64.row a107 c108 ([(vget img l (r6.1 + 4)), (vget img l (r6.1 + 5)), (vget img l (r6.1 + 6)), (vget img l (r6.1 + 7))]), blk b105 (.cells [(.int .u64 (vget img l (r6.1 + 7)))].toArray 38 (0, 0)), blk b89 (.cells [(.int .u64 (vget img l (r6.1 + 6)))].toArray 38 (0, 0)), blk b73 (.cells [(.int .u64 (vget img l (r6.1 + 5)))].toArray 38 (0, 0)), blk b57 (.cells [(.int .u64 (vget img l (r6.1 + 4)))].toArray 38 (0, 0)), blk b4 (.cells [(.int .i64 0), (.int .u64 0), (.int .u64 0), (.string ByteArray.empty)].toArray 46 (0, 0))] := hs110
     refine zE 1 ?_
     refine normal_block ?_
     refine hK98 _ _ ?_
     refine W.region ?_
     refine zE 3 ?_
     refine loopAt_next ?_
     refine loopAt_round ?_
     refine W.seq fun K112 hK112 => ?_
     refine W.sr fun K113 hK113 => ?_
     refine zE 2 (hK113 _ _ ?_)
     refine W.cond_true true (by kernel_rfl) rfl ?_
     refine W.skip ?_
     refine hK112 _ _ ?_
     refine W.seq fun K114 hK114 => ?_
     refine W.block ?_
     refine W.region ?_
     refine zR 4 ?_
     obtain ⟨h115, hm⟩ := need_some hm
     refine zI _ (wrap_i64 h115.1 h115.2) ?_
     refine zC00 hs111 (get_spec (at_ := (r6.1 + 8)) (hv := (viewAt_old hs111 hv)) B _) fun w116 hs118 => ?_
     refine ops_new (fun b => .slice (some ⟨b, 0, none⟩) 1 1) (.cells [(.int .u64 (vget img l (r6.1 + 8)))].toArray 38 (0, 0)) hs118 (by kernel_rfl) (fun b121 w119 hs120 => ?_)
     have hs122 := St.f1 hs120
     refine ops_appendK kU64 (bytes := 8) (a' := (some ⟨b121, 0, none⟩)) (c' := 1) (l := [(vget img l (r6.1 + 4)), (vget img l (r6.1 + 5)), (vget img l (r6.1 + 6)), (vget img l (r6.1 + 7))]) (m := [(vget img l (r6.1 + 8))]) hs122 (by kernel_rfl) (by simp) (cells_blk (hs122.heapAt 1 rfl)) (by unfold maxLen; (try simp only [List.length_cons, List.length_nil]); omega) (by (try simp only [List.length_cons, List.length_nil]); omega) (fun a123 c124 w125 hs126 => ?_)
     have hs127 : St B w [] w125 [kU64.row a123 c124 ([(vget img l (r6.1 + 4)), (vget img l (r6.1 + 5)), (vget img l (r6.1 + 6)), (vget img l (r6.1 + 7)), (vget img l (r6.1 + 8))]), blk b121 (.cells [(.int .u64 (vget img l (r6.1 + 8)))].toArray 38 (0, 0)), blk b105 (.cells [(.int .u64 (vget img l (r6.1 + 7)))].toArray 38 (0, 0)), blk b89 (.cells [(.int .u64 (vget img l (r6.1 + 6)))].toArray 38 (0, 0)), blk b73 (.cells [(.int .u64 (vget img l (r6.1 + 5)))].toArray 38 (0, 0)), blk b57 (.cells [(.int .u64 (vget img l (r6.1 + 4)))].toArray 38 (0, 0)), blk b4 (.cells [(.int .i64 0), (.int .u64 0), (.int .u64 0), (.string ByteArray.empty)].toArray 46 (0, 0))] := hs126
     refine zE 1 ?_
     refine normal_block ?_
     refine hK114 _ _ ?_
     refine W.region ?_
     refine zE 3 ?_
     refine loopAt_next ?_
     refine loopAt_round ?_
     refine W.seq fun K128 hK128 => ?_
     refine W.sr fun K129 hK129 => ?_
     refine zE 2 (hK129 _ _ ?_)
     refine W.cond_true true (by kernel_rfl) rfl ?_
     refine W.skip ?_
     refine hK128 _ _ ?_
     refine W.seq fun K130 hK130 => ?_
     refine W.block ?_
     refine W.region ?_
     refine zR 4 ?_
     obtain ⟨h131, hm⟩ := need_some hm
     refine zI _ (wrap_i64 h131.1 h131.2) ?_
     refine zC00 hs127 (get_spec (at_ := (r6.1 + 9)) (hv := (viewAt_old hs127 hv)) B _) fun w132 hs134 => ?_
     refine ops_new (fun b => .slice (some ⟨b, 0, none⟩) 1 1) (.cells [(.int .u64 (vget img l (r6.1 + 9)))].toArray 38 (0, 0)) hs134 (by kernel_rfl) (fun b137 w135 hs136 => ?_)
     have hs138 := St.f1 hs136
     refine ops_appendK kU64 (bytes := 8) (a' := (some ⟨b137, 0, none⟩)) (c' := 1) (l := [(vget img l (r6.1 + 4)), (vget img l (r6.1 + 5)), (vget img l (r6.1 + 6)), (vget img l (r6.1 + 7)), (vget img l (r6.1 + 8))]) (m := [(vget img l (r6.1 + 9))]) hs138 (by kernel_rfl) (by simp) (cells_blk (hs138.heapAt 1 rfl)) (by unfold maxLen; (try simp only [List.length_cons, List.length_nil]); omega) (by (try simp only [List.length_cons, List.length_nil]); omega) (fun a139 c140 w141 hs142 => ?_)
     have hs143 : St B w [] w141 [kU64.row a139 c140 ([(vget img l (r6.1 + 4)), (vget img l (r6.1 + 5)), (vget img l (r6.1 + 6)), (vget img l (r6.1 + 7)), (vget img l (r6.1 + 8)), (vget img l (r6.1 + 9))]), blk b137 (.cells [(.int .u64 (vget img l (r6.1 + 9)))].toArray 38 (0, 0)), blk b121 (.cells [(.int .u64 (vget img l (r6.1 + 8)))].toArray 38 (0, 0)), blk b105 (.cells [(.int .u64 (vget img l (r6.1 + 7)))].toArray 38 (0, 0)), blk b89 (.cells [(.int .u64 (vget img l (r6.1 + 6)))].toArray 38 (0, 0)), blk b73 (.cells [(.int .u64 (vget img l (r6.1 + 5)))].toArray 38 (0, 0)), blk b57 (.cells [(.int .u64 (vget img l (r6.1 + 4)))].toArray 38 (0, 0)), blk b4 (.cells [(.int .i64 0), (.int .u64 0), (.int .u64 0), (.string ByteArray.empty)].toArray 46 (0, 0))] := hs142
     refine zE 1 ?_
     refine normal_block ?_
     refine hK130 _ _ ?_
     refine W.region ?_
     refine zE 3 ?_
     refine loopAt_next ?_
     refine loopAt_round ?_
     refine W.seq fun K144 hK144 => ?_
     refine W.sr fun K145 hK145 => ?_
     refine zE 2 (hK145 _ _ ?_)
     refine W.cond_true true (by kernel_rfl) rfl ?_
     refine W.skip ?_
     refine hK144 _ _ ?_
     refine W.seq fun K146 hK146 => ?_
     refine W.block ?_
     refine W.region ?_
     refine zR 4 ?_
     obtain ⟨h147, hm⟩ := need_some hm
     refine zI _ (wrap_i64 h147.1 h147.2) ?_
     refine zC00 hs143 (get_spec (at_ := (r6.1 + 10)) (hv := (viewAt_old hs143 hv)) B _) fun w148 hs150 => ?_
     refine ops_new (fun b => .slice (some ⟨b, 0, none⟩) 1 1) (.cells [(.int .u64 (vget img l (r6.1 + 10)))].toArray 38 (0, 0)) hs150 (by kernel_rfl) (fun b153 w151 hs152 => ?_)
     have hs154 := St.f1 hs152
     refine ops_appendK kU64 (bytes := 8) (a' := (some ⟨b153, 0, none⟩)) (c' := 1) (l := [(vget img l (r6.1 + 4)), (vget img l (r6.1 + 5)), (vget img l (r6.1 + 6)), (vget img l (r6.1 + 7)), (vget img l (r6.1 + 8)), (vget img l (r6.1 + 9))]) (m := [(vget img l (r6.1 + 10))]) hs154 (by kernel_rfl) (by simp) (cells_blk (hs154.heapAt 1 rfl)) (by unfold maxLen; (try simp only [List.length_cons, List.length_nil]); omega) (by (try simp only [List.length_cons, List.length_nil]); omega) (fun a155 c156 w157 hs158 => ?_)
     have hs159 : St B w [] w157 [kU64.row a155 c156 ([(vget img l (r6.1 + 4)), (vget img l (r6.1 + 5)), (vget img l (r6.1 + 6)), (vget img l (r6.1 + 7)), (vget img l (r6.1 + 8)), (vget img l (r6.1 + 9)), (vget img l (r6.1 + 10))]), blk b153 (.cells [(.int .u64 (vget img l (r6.1 + 10)))].toArray 38 (0, 0)), blk b137 (.cells [(.int .u64 (vget img l (r6.1 + 9)))].toArray 38 (0, 0)), blk b121 (.cells [(.int .u64 (vget img l (r6.1 + 8)))].toArray 38 (0, 0)), blk b105 (.cells [(.int .u64 (vget img l (r6.1 + 7)))].toArray 38 (0, 0)), blk b89 (.cells [(.int .u64 (vget img l (r6.1 + 6)))].toArray 38 (0, 0)), blk b73 (.cells [(.int .u64 (vget img l (r6.1 + 5)))].toArray 38 (0, 0)), blk b57 (.cells [(.int .u64 (vget img l (r6.1 + 4)))].toArray 38 (0, 0)), blk b4 (.cells [(.int .i64 0), (.int .u64 0), (.int .u64 0), (.string ByteArray.empty)].toArray 46 (0, 0))] := hs158
     refine zE 1 ?_
     refine normal_block ?_
     refine hK146 _ _ ?_
     refine W.region ?_
     refine zE 3 ?_
     refine loopAt_next ?_
     refine loopAt_round ?_
     refine W.seq fun K160 hK160 => ?_
     refine W.sr fun K161 hK161 => ?_
     refine zE 2 (hK161 _ _ ?_)
     refine W.cond_true true (by kernel_rfl) rfl ?_
     refine W.skip ?_
     refine hK160 _ _ ?_
     refine W.seq fun K162 hK162 => ?_
     refine W.block ?_
     refine W.region ?_
     refine zR 4 ?_
     obtain ⟨h163, hm⟩ := need_some hm
     refine zI _ (wrap_i64 h163.1 h163.2) ?_
     refine zC00 hs159 (get_spec (at_ := (r6.1 + 11)) (hv := (viewAt_old hs159 hv)) B _) fun w164 hs166 => ?_
     refine ops_new (fun b => .slice (some ⟨b, 0, none⟩) 1 1) (.cells [(.int .u64 (vget img l (r6.1 + 11)))].toArray 38 (0, 0)) hs166 (by kernel_rfl) (fun b169 w167 hs168 => ?_)
     have hs170 := St.f1 hs168
     refine ops_appendK kU64 (bytes := 8) (a' := (some ⟨b169, 0, none⟩)) (c' := 1) (l := [(vget img l (r6.1 + 4)), (vget img l (r6.1 + 5)), (vget img l (r6.1 + 6)), (vget img l (r6.1 + 7)), (vget img l (r6.1 + 8)), (vget img l (r6.1 + 9)), (vget img l (r6.1 + 10))]) (m := [(vget img l (r6.1 + 11))]) hs170 (by kernel_rfl) (by simp) (cells_blk (hs170.heapAt 1 rfl)) (by unfold maxLen; (try simp only [List.length_cons, List.length_nil]); omega) (by (try simp only [List.length_cons, List.length_nil]); omega) (fun a171 c172 w173 hs174 => ?_)
     have hs175 : St B w [] w173 [kU64.row a171 c172 ([(vget img l (r6.1 + 4)), (vget img l (r6.1 + 5)), (vget img l (r6.1 + 6)), (vget img l (r6.1 + 7)), (vget img l (r6.1 + 8)), (vget img l (r6.1 + 9)), (vget img l (r6.1 + 10)), (vget img l (r6.1 + 11))]), blk b169 (.cells [(.int .u64 (vget img l (r6.1 + 11)))].toArray 38 (0, 0)), blk b153 (.cells [(.int .u64 (vget img l (r6.1 + 10)))].toArray 38 (0, 0)), blk b137 (.cells [(.int .u64 (vget img l (r6.1 + 9)))].toArray 38 (0, 0)), blk b121 (.cells [(.int .u64 (vget img l (r6.1 + 8)))].toArray 38 (0, 0)), blk b105 (.cells [(.int .u64 (vget img l (r6.1 + 7)))].toArray 38 (0, 0)), blk b89 (.cells [(.int .u64 (vget img l (r6.1 + 6)))].toArray 38 (0, 0)), blk b73 (.cells [(.int .u64 (vget img l (r6.1 + 5)))].toArray 38 (0, 0)), blk b57 (.cells [(.int .u64 (vget img l (r6.1 + 4)))].toArray 38 (0, 0)), blk b4 (.cells [(.int .i64 0), (.int .u64 0), (.int .u64 0), (.string ByteArray.empty)].toArray 46 (0, 0))] := hs174
     refine zE 1 ?_
     refine normal_block ?_
     refine hK162 _ _ ?_
     refine W.region ?_
     refine zE 3 ?_
     refine loopAt_next ?_
     refine loopAt_round ?_
     refine W.seq fun K176 hK176 => ?_
     refine W.sr fun K177 hK177 => ?_
     refine zE 2 (hK177 _ _ ?_)
     refine W.cond_false false (by kernel_rfl) rfl ?_
     refine W.exit (exit_seq (exit_seq (exit_here ?_)))
     refine hK46 _ _ ?_
     refine W.sr fun K178 hK178 => ?_
     refine zR 2 ?_
     obtain ⟨h179, hm⟩ := need_some hm
     refine zI _ (wrap_i64 h179.1 h179.2) ?_
     obtain ⟨r180, h181, hm⟩ := bind_some hm
     refine zC00 hs175 (unpack_walk (ws := [(vget img l (r6.1 + 4)), (vget img l (r6.1 + 5)), (vget img l (r6.1 + 6)), (vget img l (r6.1 + 7)), (vget img l (r6.1 + 8)), (vget img l (r6.1 + 9)), (vget img l (r6.1 + 10)), (vget img l (r6.1 + 11))]) (n_ := r33) (wa := a171) (wc := c172) (hw := (St.kcells kU64 hs175 0 rfl)) (hm := h181) B _) fun w182 hs184 => ?_
     refine zE 5 (hK178 _ _ ?_)
     refine W.seq fun K185 hK185 => ?_
     refine W.sr fun K186 hK186 => ?_
     refine zE 2 (hK186 _ _ ?_)
     refine W.cond (!decide (r180.2 = 0)) (by kernel_rfl) (fun h187 => ?_) (fun h187 => ?_)
     rotate_left
     ·
      have h187p : r180.2 = 0 := of_decide_eq_true (bnot_false h187)
      replace hm := ite_yes hm h187p
      refine W.skip ?_
      refine hK185 _ _ ?_
      refine W.sr fun K188 hK188 => ?_
      refine zR 2 ?_
      refine zC00 hs184 (get_spec (at_ := r6.1) (hv := (viewAt_old hs184 hv)) B _) fun w189 hs191 => ?_
      refine zR 1 ?_
      obtain ⟨h192, hm⟩ := need_some hm
      refine zI _ (wrap_i64 h192.1 h192.2) ?_
      refine zR 2 ?_
      obtain ⟨h193, hm⟩ := need_some hm
      refine zI _ (wrap_i64 h193.1 h193.2) ?_
      refine zC00 hs191 (get_spec (at_ := (r6.1 + 2)) (hv := (viewAt_old hs191 hv)) B _) fun w194 hs196 => ?_
      refine zR 2 ?_
      obtain ⟨h197, hm⟩ := need_some hm
      refine zI _ (wrap_i64 h197.1 h197.2) ?_
      refine zC00 hs196 (get_spec (at_ := (r6.1 + 3)) (hv := (viewAt_old hs196 hv)) B _) fun w198 hs200 => ?_
      refine zR 3 ?_
      have hs203 := St.f9 hs200
      refine ops_store (off := 0) (cs := [(.int .i64 0), (.int .u64 0), (.int .u64 0), (.string ByteArray.empty)]) (vs := [(.int .i64 r31), (.int .u64 (vget img l (r6.1 + 2))), (.int .u64 (vget img l (r6.1 + 3))), (.string r180.1)]) hs203 (by kernel_rfl) (by simp) rfl (fun w201 hs202 => ?_)
      have hs204 : St B w [] w201 [blk b4 (.cells [(.int .i64 r31), (.int .u64 (vget img l (r6.1 + 2))), (.int .u64 (vget img l (r6.1 + 3))), (.string r180.1)].toArray 46 (0, 0)), kU64.row a171 c172 ([(vget img l (r6.1 + 4)), (vget img l (r6.1 + 5)), (vget img l (r6.1 + 6)), (vget img l (r6.1 + 7)), (vget img l (r6.1 + 8)), (vget img l (r6.1 + 9)), (vget img l (r6.1 + 10)), (vget img l (r6.1 + 11))]), blk b169 (.cells [(.int .u64 (vget img l (r6.1 + 11)))].toArray 38 (0, 0)), blk b153 (.cells [(.int .u64 (vget img l (r6.1 + 10)))].toArray 38 (0, 0)), blk b137 (.cells [(.int .u64 (vget img l (r6.1 + 9)))].toArray 38 (0, 0)), blk b121 (.cells [(.int .u64 (vget img l (r6.1 + 8)))].toArray 38 (0, 0)), blk b105 (.cells [(.int .u64 (vget img l (r6.1 + 7)))].toArray 38 (0, 0)), blk b89 (.cells [(.int .u64 (vget img l (r6.1 + 6)))].toArray 38 (0, 0)), blk b73 (.cells [(.int .u64 (vget img l (r6.1 + 5)))].toArray 38 (0, 0)), blk b57 (.cells [(.int .u64 (vget img l (r6.1 + 4)))].toArray 38 (0, 0))] := hs202
      refine zE 1 (hK188 _ _ ?_)
      refine W.ret ?_
      obtain rfl := some_inj hm
      have hs205 := St.tk0 hs204
      refine ret_of (.tuple #[(.int .u64 (vget img l r6.1)), (.agg #[(.int .i64 r31), (.int .u64 (vget img l (r6.1 + 2))), (.int .u64 (vget img l (r6.1 + 3))), (.string r180.1)]), (.int .i64 0)]) (resS_of (by kernel_rfl) (resD_three rfl (.tmp (by kernel_rfl)) (.agg (ad := ⟨b4, 0, none⟩) (cs := [(.int .i64 r31), (.int .u64 (vget img l (r6.1 + 2))), (.int .u64 (vget img l (r6.1 + 3))), (.string r180.1)]) (by kernel_rfl) (by kernel_rfl) (cells_sub (hs204.heapAt 0 rfl) rfl)) (.tmp (by kernel_rfl)))) ⟨_, ⟨rfl, rfl⟩, hs205⟩
     ·
      have h187p : ¬ (r180.2 = 0) := of_decide_eq_false (bnot_true h187)
      replace hm := ite_no hm h187p
      refine W.sr fun K206 hK206 => ?_
      refine zR 3 ?_
      have hs209 := St.f9 hs184
      refine ops_store (off := 0) (cs := [(.int .i64 0), (.int .u64 0), (.int .u64 0), (.string ByteArray.empty)]) (vs := [(.int .i64 0), (.int .u64 0), (.int .u64 0), (.string ByteArray.empty)]) hs209 (by kernel_rfl) (by simp) rfl (fun w207 hs208 => ?_)
      have hs210 : St B w [] w207 [blk b4 (.cells [(.int .i64 0), (.int .u64 0), (.int .u64 0), (.string ByteArray.empty)].toArray 46 (0, 0)), kU64.row a171 c172 ([(vget img l (r6.1 + 4)), (vget img l (r6.1 + 5)), (vget img l (r6.1 + 6)), (vget img l (r6.1 + 7)), (vget img l (r6.1 + 8)), (vget img l (r6.1 + 9)), (vget img l (r6.1 + 10)), (vget img l (r6.1 + 11))]), blk b169 (.cells [(.int .u64 (vget img l (r6.1 + 11)))].toArray 38 (0, 0)), blk b153 (.cells [(.int .u64 (vget img l (r6.1 + 10)))].toArray 38 (0, 0)), blk b137 (.cells [(.int .u64 (vget img l (r6.1 + 9)))].toArray 38 (0, 0)), blk b121 (.cells [(.int .u64 (vget img l (r6.1 + 8)))].toArray 38 (0, 0)), blk b105 (.cells [(.int .u64 (vget img l (r6.1 + 7)))].toArray 38 (0, 0)), blk b89 (.cells [(.int .u64 (vget img l (r6.1 + 6)))].toArray 38 (0, 0)), blk b73 (.cells [(.int .u64 (vget img l (r6.1 + 5)))].toArray 38 (0, 0)), blk b57 (.cells [(.int .u64 (vget img l (r6.1 + 4)))].toArray 38 (0, 0))] := hs208
      refine zE 1 (hK206 _ _ ?_)
      refine W.ret (ret_seq ?_)
      obtain rfl := some_inj hm
      have hs211 := St.tk0 hs210
      refine ret_of (.tuple #[(.int .u64 0), (.agg #[(.int .i64 0), (.int .u64 0), (.int .u64 0), (.string ByteArray.empty)]), (.int .i64 r180.2)]) (resS_of (by kernel_rfl) (resD_three rfl (.tmp (by kernel_rfl)) (.agg (ad := ⟨b4, 0, none⟩) (cs := [(.int .i64 0), (.int .u64 0), (.int .u64 0), (.string ByteArray.empty)]) (by kernel_rfl) (by kernel_rfl) (cells_sub (hs210.heapAt 0 rfl) rfl)) (.tmp (by kernel_rfl)))) ⟨_, ⟨rfl, rfl⟩, hs211⟩
   ·
    refine W.region ?_
    refine zR 3 ?_
    rcases Bool.eq_false_or_eq_true (decide (r31 > 24)) with h212 | h212
    ·
     obtain ⟨h212p, hm⟩ := iY hm h212
     refine zS 44 h212 ?_
     refine zS 43 h212 ?_
     refine zE 3 ?_
     exact ⟨true, slots_intro _ (by kernel_rfl), hs29, hm⟩
    ·
     obtain ⟨h212p, hm⟩ := iN hm h212
     refine zS 44 h212 ?_
     refine zS 43 h212 ?_
     refine zE 3 ?_
     exact ⟨(decide (r33 > 64)), slots_intro _ (by kernel_rfl), hs29, hm⟩
 ·
  refine W.region ?_
  refine zR 3 ?_
  rcases Bool.eq_false_or_eq_true (!decide (r6.2 = 0)) with h213 | h213
  rotate_left
  ·
   have h213p : r6.2 = 0 := of_decide_eq_true (bnot_false h213)
   replace hm := ite_yes hm h213p
   refine zS 24 h213 ?_
   refine zS 23 h213 ?_
   refine zR 2 ?_
   refine zC00 hs10 (get_spec (at_ := r6.1) (hv := (viewAt_old hs10 hv)) B _) fun w214 hs216 => ?_
   refine zE 2 ?_
   exact ⟨(decide ((vget img l r6.1) = 0)), slots_intro _ (by kernel_rfl), hs216, hm⟩
  ·
   have h213p : ¬ (r6.2 = 0) := of_decide_eq_false (bnot_true h213)
   replace hm := ite_no hm h213p
   refine zS 24 h213 ?_
   refine zS 23 h213 ?_
   refine zE 5 ?_
   exact ⟨true, slots_intro _ (by kernel_rfl), hs10, hm⟩

end Go.Proofs.YthimamnblklkbaaDoor

set_option linter.unusedVariables false
set_option maxRecDepth 20000
set_option maxHeartbeats 2000000
namespace Go.Proofs.YthimamnblklkbaaDoor
open Go Go.RowKit
set_option linter.unusedSimpArgs false
set_option linter.unusedVariables false

def ssave_J2 (img : List Int) (l : List (Int × Int)) (q_ : Int) (r6 : Int × Int) (q64 : List (Int × Int)) : Option (Int × List (Int × Int)) :=
 need ((q64 : List (Int × Int)).length + 1 ≤ 1000000) <|
(some (vsets img l (q64 ++ [(r6.1, q_)]))).bind fun r85 =>
need (((q64 ++ [(r6.1, q_)]) : List (Int × Int)).length ≤ 1000000) <|
some (r85.1, r85.2)

def ssave_B0 (img : List Int) (l : List (Int × Int)) (q_ : Int) (r6 : Int × Int) (r98 : List Int) (k115 : ((List (Int × Int)) × Int) → Option (Int × List (Int × Int))) (q113 : List (Int × Int)) (p114 : Int) : Option (Int × List (Int × Int)) :=
 if p114 < (r98.length : Int) then (need (0 ≤ p114 ∧ p114 < (r98.length : Int)) <|
need (-9223372036854775808 ≤ (r6.1 + 4) ∧ (r6.1 + 4) ≤ 9223372036854775807) <|
need (-9223372036854775808 ≤ ((r6.1 + 4) + p114) ∧ ((r6.1 + 4) + p114) ≤ 9223372036854775807) <|
need ((q113 : List (Int × Int)).length + 1 ≤ 1000000) <|
need (-9223372036854775808 ≤ (p114 + 1) ∧ (p114 + 1) ≤ 9223372036854775807) <|
k115 ((q113 ++ [(((r6.1 + 4) + p114), (r98.getD p114.toNat 0))]), (p114 + 1))) else (ssave_J2 img l q_ r6 q113)

def ssave_J1 (img : List Int) (l : List (Int × Int)) (k_ : Int) (q_ : Int) (re_ : Int) (ra_ : Int) (rb_ : Int) (rs_ : ByteArray) (r6 : Int × Int) (p17 : Bool) : Option (Int × List (Int × Int)) :=
 if p17 = true then (some (1, l)) else (if r6.2 = 0 then (need (-9223372036854775808 ≤ (r6.1 + 1) ∧ (r6.1 + 1) ≤ 9223372036854775807) <|
need (0 ≤ re_ ∧ re_ ≤ 18446744073709551615) <|
need (0 ≤ (rs_.size : Int) ∧ (rs_.size : Int) ≤ 18446744073709551615) <|
need (-9223372036854775808 ≤ (r6.1 + 2) ∧ (r6.1 + 2) ≤ 9223372036854775807) <|
need (-9223372036854775808 ≤ (r6.1 + 3) ∧ (r6.1 + 3) ≤ 9223372036854775807) <|
(opack_M rs_).bind fun r98 =>
iter (fun k_ s_ => ssave_B0 img l q_ r6 r98 k_ s_.1 s_.2) FUEL ([((r6.1 + 1), ((re_ + ((256 * (rs_.size : Int)) % 18446744073709551616)) % 18446744073709551616)), ((r6.1 + 2), ra_), ((r6.1 + 3), rb_)], 0)) else (some (r6.2, l)))

def ssave_M (img : List Int) (l : List (Int × Int)) (i_ : Int) (k_ : Int) (q_ : Int) (re_ : Int) (ra_ : Int) (rb_ : Int) (rs_ : ByteArray) : Option (Int × List (Int × Int)) :=
 (sfind_M img i_ k_).bind fun r6 =>
if r6.2 = 2 then (some (r6.2, l)) else (if q_ < 1 then (ssave_J1 img l k_ q_ re_ ra_ rb_ rs_ r6 (decide (q_ < 1))) else (if q_ > 1099511627776 then (ssave_J1 img l k_ q_ re_ ra_ rb_ rs_ r6 (decide (q_ > 1099511627776))) else ((smay10_M re_ rs_).bind fun r166 =>
ssave_J1 img l k_ q_ re_ ra_ rb_ rs_ r6 (!r166))))

theorem ssave_walk {img : List Int} {l : List (Int × Int)} {i_ : Int} {k_ : Int} {q_ : Int} {re_ : Int} {ra_ : Int} {rb_ : Int} {rs_ : ByteArray} {vb : Nat} {r : Int × List (Int × Int)} (B : Nat) (w : World) (hG2 : 1 < B) (hL : CellsAt (some ⟨1, 0, none⟩) [(.int .i64 1), (.int .i64 2), (.int .i64 2)] w) (hm : ssave_M img l i_ k_ q_ re_ ra_ rb_ rs_ = some r) : Spec Tryd.prog 33 #[(.pointer (some ⟨vb, 0, none⟩)), (.int .i64 i_), (.int .i64 k_), (.int .u64 q_), (.agg #[(.int .i64 re_), (.int .u64 ra_), (.int .u64 rb_), (.string rs_)])] B w [viewA (ptr vb) img l] (fun v H' => v = (.int .i64 r.1) ∧ H' = [viewA (ptr vb) img r.2]) := by
 refine spec_W Tryd.func33 rfl fun l0 hs => ?_
 unfold ssave_M at hm
 refine W.sr fun K1 hK1 => ?_
 refine zN [(.int .i64 re_), (.int .u64 ra_), (.int .u64 rb_), (.string rs_)] 46 hs fun b4 w2 hs3 => ?_
 refine zE 1 (hK1 _ _ ?_)
 refine W.sr fun K5 hK5 => ?_
 refine zR 3 ?_
 obtain ⟨r6, h7, hm⟩ := bind_some hm
 refine zC00 hs3 (sfind_walk (i_ := i_) (k_ := k_) (img := img) (l := l) (hL := (hs3.oldCellsB hG2 hL)) (hv := (hs3.entAt 1 rfl viewA_at)) (hm := h7) B _) fun w8 hs10 => ?_
 refine zE 5 (hK5 _ _ ?_)
 refine W.seq fun K11 hK11 => ?_
 refine W.block ?_
 refine W.sr fun K12 hK12 => ?_
 refine zE 3 (hK12 _ _ ?_)
 refine W.cond (decide (r6.2 = 2)) (by kernel_rfl) (fun h13 => ?_) (fun h13 => ?_)
 ·
  obtain ⟨h13p, hm⟩ := iY hm h13
  refine W.sr fun K14 hK14 => ?_
  refine zE 2 (hK14 _ _ ?_)
  refine W.ret (ret_block (ret_seq ?_))
  obtain rfl := some_inj hm
  have hs15 := St.f1 hs10
  have hs16 := St.tk1 hs15
  refine ret_of (.int .i64 r6.2) (by kernel_rfl) ⟨_, ⟨rfl, rfl⟩, hs16⟩
 ·
  obtain ⟨h13p, hm⟩ := iN hm h13
  refine W.seq_join (fun s_ w_ => ∃ (p17 : Bool), (∃ us, s_ = slots 89 [(0, (.pointer (some ⟨vb, 0, none⟩))), (3, (.int .u64 q_)), (9, (.pointer (some ⟨b4, 0, none⟩))), (11, (.int .i64 r6.1)), (12, (.int .i64 r6.2)), (27, (.bool p17))] us) ∧ St B w l0 w_ [viewA (ptr vb) img l, blk b4 (.cells [(.int .i64 re_), (.int .u64 ra_), (.int .u64 rb_), (.string rs_)].toArray 46 (0, 0))] ∧ ssave_J1 img l k_ q_ re_ ra_ rb_ rs_ r6 p17 = some r) ?_ ?_
  ·
   rintro _ w18 ⟨p17, ⟨us, rfl⟩, hs19, hm⟩
   unfold ssave_J1 at hm
   refine W.cond p17 (by kernel_rfl) (fun h20 => ?_) (fun h20 => ?_)
   ·
    have h20p : p17 = true := h20
    replace hm := ite_yes hm h20p
    refine W.sr fun K21 hK21 => ?_
    refine zE 1 (hK21 _ _ ?_)
    refine W.ret (ret_block (ret_seq ?_))
    obtain rfl := some_inj hm
    have hs22 := St.tk1 hs19
    refine ret_of (.int .i64 1) (by kernel_rfl) ⟨_, ⟨rfl, rfl⟩, hs22⟩
   ·
    have h20p : ¬ (p17 = true) := ne_true_of_eq_false h20
    replace hm := ite_no hm h20p
    refine W.sr fun K23 hK23 => ?_
    refine zE 3 (hK23 _ _ ?_)
    refine W.cond (!decide (r6.2 = 0)) (by kernel_rfl) (fun h24 => ?_) (fun h24 => ?_)
    rotate_left
    ·
     have h24p : r6.2 = 0 := of_decide_eq_true (bnot_false h24)
     replace hm := ite_yes hm h24p
     refine W.skip ?_
     refine normal_block ?_
     refine hK11 _ _ ?_
     refine W.seq fun K25 hK25 => ?_
     have hs26 := hs19.drew
     refine W.regionD [(0, 0), (1, 1), (0, 0), (4, 4), (8, 8), (0, 0), (32, 32), (64, 64), (128, 128), (256, 256), (528, 528), (1026, 1026), (0, 0), (4096, 4096), (0, 0), (16384, 16384), (43008, 40960), (0, 0), (131072, 131072), (0, 0), (524288, 524288), (1376256, 1310720), (2164736, 2164736), (8388607, 4194304)] (fun w_ => St B w l0 w_ [viewA (ptr vb) img l, blk b4 (.cells [(.int .i64 re_), (.int .u64 ra_), (.int .u64 rb_), (.string rs_)].toArray 46 (0, 0))]) (by kernel_rfl) hs26 ?_
     refine any_val (v := (.int .i64 r6.1)) (v' := (.int .i64 r6.1)) 0 (by kernel_rfl) (fun _ => by kernel_rfl) rfl hs26 ?_
     obtain ⟨h27, hm⟩ := need_some hm
     refine any_val (v := .int .i64 (IntKind.i64.wrap (r6.1 + 1))) (v' := .int .i64 (r6.1 + 1)) 1 (by kernel_rfl) (fun _ => by kernel_rfl) (congrArg (Value.int .i64) (wrap_i64 h27.1 h27.2)) hs26 ?_
     refine any_val (v := (.pointer (some ⟨b4, 0, none⟩))) (v' := (.pointer (some ⟨b4, 0, none⟩))) 2 (by kernel_rfl) (fun _ => by kernel_rfl) rfl hs26 ?_
     refine any_R 3 (by kernel_rfl) (fun _ hS_ => runs_load (ad := ⟨b4, 0, none⟩) (v := (.int .i64 re_)) (by kernel_rfl) (hS_.cellAt 1 rfl rfl)) hs26 ?_
     obtain ⟨h28, hm⟩ := need_some hm
     refine any_val (v := .int .u64 (IntKind.u64.wrap re_)) (v' := .int .u64 re_) 4 (by kernel_rfl) (fun _ => by kernel_rfl) (congrArg (Value.int .u64) (wrap_u64 h28.1 (Int.lt_of_le_of_lt h28.2 (by decide)))) hs26 ?_
     refine any_val (v := (.pointer (some ⟨b4, 3, none⟩))) (v' := (.pointer (some ⟨b4, 3, none⟩))) 5 (by kernel_rfl) (fun _ => by kernel_rfl) rfl hs26 ?_
     refine any_R 6 (by kernel_rfl) (fun _ hS_ => runs_load (ad := ⟨b4, 3, none⟩) (v := (.string rs_)) (by kernel_rfl) (hS_.cellAt 1 rfl rfl)) hs26 ?_
     refine any_val (v := (.int .i64 (rs_.size : Int))) (v' := (.int .i64 (rs_.size : Int))) 7 (by kernel_rfl) (fun _ => by kernel_rfl) rfl hs26 ?_
     obtain ⟨h29, hm⟩ := need_some hm
     refine any_val (v := .int .u64 (IntKind.u64.wrap (rs_.size : Int))) (v' := .int .u64 (rs_.size : Int)) 8 (by kernel_rfl) (fun _ => by kernel_rfl) (congrArg (Value.int .u64) (wrap_u64 h29.1 (Int.lt_of_le_of_lt h29.2 (by decide)))) hs26 ?_
     refine any_val (v := .int .u64 (IntKind.u64.wrap (256 * (rs_.size : Int)))) (v' := .int .u64 ((256 * (rs_.size : Int)) % 18446744073709551616)) 9 (by kernel_rfl) (fun _ => by kernel_rfl) (congrArg (Value.int .u64) (wrap_u64_mod _)) hs26 ?_
     refine any_val (v := .int .u64 (IntKind.u64.wrap (re_ + ((256 * (rs_.size : Int)) % 18446744073709551616)))) (v' := .int .u64 ((re_ + ((256 * (rs_.size : Int)) % 18446744073709551616)) % 18446744073709551616)) 10 (by kernel_rfl) (fun _ => by kernel_rfl) (congrArg (Value.int .u64) (wrap_u64_mod _)) hs26 ?_
     refine any_val (v := (.int .i64 r6.1)) (v' := (.int .i64 r6.1)) 12 (by kernel_rfl) (fun _ => by kernel_rfl) rfl hs26 ?_
     obtain ⟨h30, hm⟩ := need_some hm
     refine any_val (v := .int .i64 (IntKind.i64.wrap (r6.1 + 2))) (v' := .int .i64 (r6.1 + 2)) 13 (by kernel_rfl) (fun _ => by kernel_rfl) (congrArg (Value.int .i64) (wrap_i64 h30.1 h30.2)) hs26 ?_
     refine any_val (v := (.pointer (some ⟨b4, 1, none⟩))) (v' := (.pointer (some ⟨b4, 1, none⟩))) 14 (by kernel_rfl) (fun _ => by kernel_rfl) rfl hs26 ?_
     refine any_R 15 (by kernel_rfl) (fun _ hS_ => runs_load (ad := ⟨b4, 1, none⟩) (v := (.int .u64 ra_)) (by kernel_rfl) (hS_.cellAt 1 rfl rfl)) hs26 ?_
     refine any_val (v := (.int .i64 r6.1)) (v' := (.int .i64 r6.1)) 17 (by kernel_rfl) (fun _ => by kernel_rfl) rfl hs26 ?_
     obtain ⟨h31, hm⟩ := need_some hm
     refine any_val (v := .int .i64 (IntKind.i64.wrap (r6.1 + 3))) (v' := .int .i64 (r6.1 + 3)) 18 (by kernel_rfl) (fun _ => by kernel_rfl) (congrArg (Value.int .i64) (wrap_i64 h31.1 h31.2)) hs26 ?_
     refine any_val (v := (.pointer (some ⟨b4, 2, none⟩))) (v' := (.pointer (some ⟨b4, 2, none⟩))) 19 (by kernel_rfl) (fun _ => by kernel_rfl) rfl hs26 ?_
     refine any_R 20 (by kernel_rfl) (fun _ hS_ => runs_load (ad := ⟨b4, 2, none⟩) (v := (.int .u64 rb_)) (by kernel_rfl) (hS_.cellAt 1 rfl rfl)) hs26 ?_
     refine any_step 11 (by kernel_rfl) (by kernel_rfl) ?_
     refine ops_call0 hs26 (by kernel_rfl) (word_spec (at_ := (r6.1 + 1)) (x_ := ((re_ + ((256 * (rs_.size : Int)) % 18446744073709551616)) % 18446744073709551616)) B _) ?_
     rintro _ _ w34 ⟨b32, b33, rfl, rfl⟩ hs35
     have hs36 := St.ap2 hs35
     have hs37 := St.f3 hs36
     have hs38 := St.f3 hs37
     have hs39 := St.tk2 hs38
     refine ops_done (by kernel_rfl) ⟨hs39, ?_⟩
     refine any_step 16 (by kernel_rfl) (by kernel_rfl) ?_
     refine ops_call0 hs36 (by kernel_rfl) (word_spec (at_ := (r6.1 + 2)) (x_ := ra_) B _) ?_
     rintro _ _ w42 ⟨b40, b41, rfl, rfl⟩ hs43
     have hs44 := St.ap2 hs43
     have hs45 := St.f5 hs44
     have hs46 := St.f5 hs45
     have hs47 := St.tk2 hs46
     refine ops_done (by kernel_rfl) ⟨hs47, ?_⟩
     refine any_step 21 (by kernel_rfl) (by kernel_rfl) ?_
     refine ops_call0 hs44 (by kernel_rfl) (word_spec (at_ := (r6.1 + 3)) (x_ := rb_) B _) ?_
     rintro _ _ w50 ⟨b48, b49, rfl, rfl⟩ hs51
     have hs52 := St.ap2 hs51
     have hs53 := St.f7 hs52
     have hs54 := St.f7 hs53
     have hs55 := St.tk2 hs54
     refine ops_done (by kernel_rfl) ⟨hs55, ?_⟩
     refine any_step 22 (by kernel_rfl) (by kernel_rfl) ?_
     refine ops_new (fun b => .slice (some ⟨b, 0, none⟩) 3 3) (.cells [(.func (.func 144) #[] #[(.pointer (some ⟨b32, 0, none⟩)), (.pointer (some ⟨b33, 0, none⟩))]), (.func (.func 144) #[] #[(.pointer (some ⟨b40, 0, none⟩)), (.pointer (some ⟨b41, 0, none⟩))]), (.func (.func 144) #[] #[(.pointer (some ⟨b48, 0, none⟩)), (.pointer (some ⟨b49, 0, none⟩))])].toArray 172 (0, 0)) hs52 (by kernel_rfl) (fun b58 w56 hs57 => ?_)
     have hs59 := St.f8 hs57
     have hs60 := St.f8 hs59
     have hs61 := St.tk2 hs60
     refine ops_done (by kernel_rfl) ⟨hs61, ?_⟩
     refine any_val (v := (.slice (some ⟨b58, 0, none⟩) 3 3)) (v' := (.slice (some ⟨b58, 0, none⟩) 3 3)) 23 (by kernel_rfl) (fun _ => by kernel_rfl) rfl hs61 ?_
     refine any_done (by kernel_rfl) ?_
     refine hK25 _ _ ?_
     refine W.seq_join (fun s_ w_ => ∃ (q64 : List (Int × Int)) (m62 : Option Addr) (m63 : Nat), (∃ us, s_ = slots 89 [(0, (.pointer (some ⟨vb, 0, none⟩))), (3, (.int .u64 q_)), (11, (.int .i64 r6.1)), (13, (.slice m62 q64.length m63))] us) ∧ St B w l0 w_ [viewA (ptr vb) img l, stepsA m62 m63 q64, blk b4 (.cells [(.int .i64 re_), (.int .u64 ra_), (.int .u64 rb_), (.string rs_)].toArray 46 (0, 0))] ∧ ssave_J2 img l q_ r6 q64 = some r) ?_ ?_
     ·
      rintro _ w65 ⟨q64, m62, m63, ⟨us, rfl⟩, hs66, hm⟩
      unfold ssave_J2 at hm
      refine W.sr fun K67 hK67 => ?_
      refine zR 4 ?_
      refine ops_call0 hs66 (by kernel_rfl) (word_spec (at_ := r6.1) (x_ := q_) B _) ?_
      rintro _ _ w70 ⟨b68, b69, rfl, rfl⟩ hs71
      have hs72 := St.ap2 hs71
      refine ops_new (fun b => .slice (some ⟨b, 0, none⟩) 1 1) (.cells [(.func (.func 144) #[] #[(.pointer (some ⟨b68, 0, none⟩)), (.pointer (some ⟨b69, 0, none⟩))])].toArray 172 (0, 0)) hs72 (by kernel_rfl) (fun b75 w73 hs74 => ?_)
      have hs76 := St.f2 hs74
      have hs77 := St.f2 hs76
      have hs78 := St.f2 hs77
      have hs79 := St.f4 hs78
      obtain ⟨h84, hm⟩ := need_some hm
      refine ops_appendSteps (bytes := 8) (a := m62) (c := m63) (sb := b75) (b1 := b68) (b2 := b69) (xs := q64) (x := r6.1) (y := q_) hs79 (by kernel_rfl) (by unfold maxLen; omega) (by omega) (fun a80 c81 w82 hs83 => ?_)
      obtain ⟨r85, h86, hm⟩ := bind_some hm
      replace h86 := some_inj h86
      obtain ⟨h87, hm⟩ := need_some hm
      have hs90 := St.f1 hs83
      refine ops_call2 hs90 (by kernel_rfl) (row_spec (b := vb) (img := img) (l := l) (a := a80) (c := c81) (n := (q64 ++ [(r6.1, q_)]).length) (xs := (q64 ++ [(r6.1, q_)])) (hn := rfl) (hsz := h87) B _) ?_
      rintro _ _ w91 ⟨hv88, hH89⟩ hs92
      rw [h86] at hv88
      try rw [h86] at hH89
      subst hv88 hH89
      have hs93 := St.ap1 hs92
      refine zE 1 (hK67 _ _ ?_)
      refine W.ret ?_
      obtain rfl := some_inj hm
      have hs94 := St.tk1 hs93
      refine ret_of (.int .i64 r85.1) (by kernel_rfl) ⟨_, ⟨rfl, rfl⟩, hs94⟩
     ·
      refine W.sr fun K95 hK95 => ?_
      refine zR 1 ?_
      refine zL ⟨b4, 3, none⟩ (.string rs_) (hs57.cellAt 8 rfl rfl) ?_
      obtain ⟨r98, h99, hm⟩ := bind_some hm
      refine ops_call0 hs57 (by kernel_rfl) (opack_walk (hm := h99) B _) ?_
      rintro _ _ w100 ⟨a96, c97, rfl, rfl⟩ hs101
      have hs102 := St.ap1 hs101
      refine zE 2 (hK95 _ _ ?_)
      refine W.block ?_
      have hs103 := St.f3 hs102
      have hs104 := St.f3 hs103
      have hs105 := St.f5 hs104
      have hs106 := St.f5 hs105
      have hs107 := St.f7 hs106
      have hs108 := St.f7 hs107
      have hs109 := St.f7 hs108
      have hs110 := St.steps_three hs109
      have hs119 := St.f3 hs110
      have hs120 := St.f2 hs119
      have hs121 := St.f2 hs120
      have hs122 := St.f3 hs121
      refine W.loop_iter (G := (List (Int × Int)) × Int × (Option Addr) × Nat) (σ := (List (Int × Int)) × Int) (fun | (q113, p114, m111, m112) => (q113, p114)) (fun | (q113, p114, m111, m112), s_, w_ => (∃ us, s_ = slots 89 [(0, (.pointer (some ⟨vb, 0, none⟩))), (3, (.int .u64 q_)), (11, (.int .i64 r6.1)), (13, (.slice m111 q113.length m112)), (64, (.slice a96 r98.length c97)), (65, (.int .i64 (r98.length : Int))), (66, (.int .i64 p114))] us) ∧ St B w l0 w_ [viewA (ptr vb) img l, stepsA m111 m112 q113, kU64.row a96 c97 r98, blk b4 (.cells [(.int .i64 re_), (.int .u64 ra_), (.int .u64 rb_), (.string rs_)].toArray 46 (0, 0))]) ([((r6.1 + 1), ((re_ + ((256 * (rs_.size : Int)) % 18446744073709551616)) % 18446744073709551616)), ((r6.1 + 2), ra_), ((r6.1 + 3), rb_)], 0, (some ⟨b58, 0, none⟩), 3) ⟨slots_intro _ (by kernel_rfl), hs122⟩ hm ?_
      rintro k115 ih116 ⟨q113, p114, m111, m112⟩ _ w117 ⟨⟨us, rfl⟩, hs118⟩ hm
      replace hm : ssave_B0 img l q_ r6 r98 k115 q113 p114 = some r := hm
      unfold ssave_B0 at hm
      refine W.sr fun K123 hK123 => ?_
      refine zE 1 (hK123 _ _ ?_)
      refine W.seq fun K124 hK124 => ?_
      refine W.cond (decide (p114 < (r98.length : Int))) (by kernel_rfl) (fun h125 => ?_) (fun h125 => ?_)
      ·
       obtain ⟨h125p, hm⟩ := iY hm h125
       refine W.skip ?_
       refine hK124 _ _ ?_
       refine W.seq fun K126 hK126 => ?_
       refine W.block ?_
       refine W.sr fun K127 hK127 => ?_
       refine zR 1 ?_
       obtain ⟨h129, hm⟩ := need_some hm
       have hk128 := lt_toNat h129
       refine ops_R (runs_index (a := a96) (n := r98.length) (z := p114) (size := 1) p114.toNat (nat_of h129.1) hk128 (kU64.addr (St.kcells kU64 hs118 2 rfl) hk128) (by kernel_rfl)) ?_
       refine zL ((adr a96 (p114.toNat * 1)).add 0) (.int .u64 (r98.getD p114.toNat 0)) (kU64.at (St.kcells kU64 hs118 2 rfl) hk128 0 0 rfl) ?_
       refine zE 2 (hK127 _ _ ?_)
       refine W.region ?_
       refine zR 2 ?_
       obtain ⟨h130, hm⟩ := need_some hm
       refine zI _ (wrap_i64 h130.1 h130.2) ?_
       refine zR 1 ?_
       obtain ⟨h131, hm⟩ := need_some hm
       refine zI _ (wrap_i64 h131.1 h131.2) ?_
       refine zR 1 ?_
       refine ops_call0 hs118 (by kernel_rfl) (word_spec (at_ := ((r6.1 + 4) + p114)) (x_ := (r98.getD p114.toNat 0)) B _) ?_
       rintro _ _ w134 ⟨b132, b133, rfl, rfl⟩ hs135
       have hs136 := St.ap2 hs135
       refine ops_new (fun b => .slice (some ⟨b, 0, none⟩) 1 1) (.cells [(.func (.func 144) #[] #[(.pointer (some ⟨b132, 0, none⟩)), (.pointer (some ⟨b133, 0, none⟩))])].toArray 172 (0, 0)) hs136 (by kernel_rfl) (fun b139 w137 hs138 => ?_)
       have hs140 := St.f2 hs138
       have hs141 := St.f2 hs140
       have hs142 := St.f2 hs141
       have hs143 := St.f4 hs142
       obtain ⟨h148, hm⟩ := need_some hm
       refine ops_appendSteps (bytes := 8) (a := m111) (c := m112) (sb := b139) (b1 := b132) (b2 := b133) (xs := q113) (x := ((r6.1 + 4) + p114)) (y := (r98.getD p114.toNat 0)) hs143 (by kernel_rfl) (by unfold maxLen; omega) (by omega) (fun a144 c145 w146 hs147 => ?_)
       refine zE 1 ?_
       refine normal_block ?_
       refine hK126 _ _ ?_
       refine W.region ?_
       obtain ⟨h149, hm⟩ := need_some hm
       refine zI _ (wrap_i64 h149.1 h149.2) ?_
       refine zE 1 ?_
       have hs150 := St.f3 hs147
       have hs151 := St.f3 hs150
       have hs152 := St.f2 hs151
       have hs153 := St.f3 hs152
       refine loopAt_next ?_
       exact ih116 ((q113 ++ [(((r6.1 + 4) + p114), (r98.getD p114.toNat 0))]), (p114 + 1), a144, c145) _ _ ⟨slots_intro _ (by kernel_rfl), hs153⟩ hm
      ·
       obtain ⟨h125p, hm⟩ := iN hm h125
       refine W.exit (exit_seq (exit_seq (exit_here ?_)))
       have hs154 := St.f3 hs118
       have hs155 := St.f2 hs154
       have hs156 := St.f2 hs155
       have hs157 := St.tk3 hs156
       exact ⟨q113, m111, m112, slots_intro _ (by kernel_rfl), hs157, hm⟩
    ·
     have h24p : ¬ (r6.2 = 0) := of_decide_eq_false (bnot_true h24)
     replace hm := ite_no hm h24p
     refine W.sr fun K158 hK158 => ?_
     refine zE 2 (hK158 _ _ ?_)
     refine W.ret (ret_block (ret_seq ?_))
     obtain rfl := some_inj hm
     have hs159 := St.tk1 hs19
     refine ret_of (.int .i64 r6.2) (by kernel_rfl) ⟨_, ⟨rfl, rfl⟩, hs159⟩
  ·
   refine W.sr fun K160 hK160 => ?_
   refine zE 3 (hK160 _ _ ?_)
   refine W.cond (decide (q_ < 1)) (by kernel_rfl) (fun h161 => ?_) (fun h161 => ?_)
   ·
    obtain ⟨h161p, hm⟩ := iY hm h161
    refine W.skip ?_
    have hs162 := St.f1 hs10
    exact ⟨(decide (q_ < 1)), slots_intro _ (by kernel_rfl), hs162, hm⟩
   ·
    obtain ⟨h161p, hm⟩ := iN hm h161
    refine W.sr fun K163 hK163 => ?_
    refine zE 3 (hK163 _ _ ?_)
    refine W.cond (decide (q_ > 1099511627776)) (by kernel_rfl) (fun h164 => ?_) (fun h164 => ?_)
    ·
     obtain ⟨h164p, hm⟩ := iY hm h164
     refine W.skip ?_
     have hs165 := St.f1 hs10
     exact ⟨(decide (q_ > 1099511627776)), slots_intro _ (by kernel_rfl), hs165, hm⟩
    ·
     obtain ⟨h164p, hm⟩ := iN hm h164
     refine W.region ?_
     refine ops_R (runs_loadAgg (ad := ⟨b4, 0, none⟩) (cs := [(.int .i64 re_), (.int .u64 ra_), (.int .u64 rb_), (.string rs_)]) (by kernel_rfl) (cells_sub (hs10.heapAt 0 rfl) rfl)) ?_
     obtain ⟨r166, h167, hm⟩ := bind_some hm
     refine zC00 hs10 (smay10_walk (re_ := re_) (ra_ := ra_) (rb_ := rb_) (rs_ := rs_) (hm := h167) B _) fun w168 hs170 => ?_
     refine zE 2 ?_
     have hs171 := St.f1 hs170
     exact ⟨(!r166), slots_intro _ (by kernel_rfl), hs171, hm⟩

end Go.Proofs.YthimamnblklkbaaDoor

set_option maxRecDepth 20000
namespace Go.Proofs.YthimamnblklkbaaDoor
open Go Go.RowKit
set_option linter.unusedSimpArgs false
set_option linter.unusedVariables false

theorem sfind_nil {i_ k_ : Int} (B : Nat) (w : World) (hL : CellsAt (some ⟨1, 0, none⟩) [(.int .i64 1), (.int .i64 2), (.int .i64 2)] w) : Spec Tryd.prog 101 #[(.pointer none), (.int .i64 i_), (.int .i64 k_)] B w [] (fun v H' => v = (.tuple #[(.int .i64 (slotAt i_ k_)), (.int .i64 2)]) ∧ H' = []) := by
 refine spec_Q Tryd.func101 rfl fun hs => ?_
 refine W.sr fun K1 hK1 => ?_
 refine zE 2 (hK1 _ _ ?_)
 refine W.sr fun K2 hK2 => ?_
 refine zR 2 ?_
 refine zC00 hs (slotat_spec (i_ := i_) (k_ := k_) (hL := (hs.oldCells hL)) B _) fun w3 hs5 => ?_
 refine zE 1 (hK2 _ _ ?_)
 refine W.seq fun K6 hK6 => ?_
 refine W.sr fun K7 hK7 => ?_
 refine zE 6 (hK7 _ _ ?_)
 refine W.cond_false false (by kernel_rfl) rfl ?_
 refine W.skip ?_
 refine hK6 _ _ ?_
 refine W.sr fun K8 hK8 => ?_
 refine zR 2 ?_
 refine zC00 hs5 (ssess_nil (hL := (hs5.oldCells hL)) (i_ := i_) B _) fun w9 hs11 => ?_
 refine zE 5 (hK8 _ _ ?_)
 refine W.sr fun K12 hK12 => ?_
 refine zE 4 (hK12 _ _ ?_)
 refine W.ret ?_
 refine ret_of (.tuple #[(.int .i64 (slotAt i_ k_)), (.int .i64 2)]) (by kernel_rfl) ⟨_, ⟨rfl, rfl⟩, hs11⟩

theorem ssave_nil {i_ k_ q_ re_ ra_ rb_ : Int} {rs_ : ByteArray} (B : Nat) (w : World) (hL : CellsAt (some ⟨1, 0, none⟩) [(.int .i64 1), (.int .i64 2), (.int .i64 2)] w) : Spec Tryd.prog 33 #[(.pointer none), (.int .i64 i_), (.int .i64 k_), (.int .u64 q_), (.agg #[(.int .i64 re_), (.int .u64 ra_), (.int .u64 rb_), (.string rs_)])] B w [] (fun v H' => v = (.int .i64 2) ∧ H' = []) := by
 refine spec_Q Tryd.func33 rfl fun hs => ?_
 refine W.sr fun K1 hK1 => ?_
 refine zN [(.int .i64 re_), (.int .u64 ra_), (.int .u64 rb_), (.string rs_)] 46 hs fun b4 w2 hs3 => ?_
 refine zE 1 (hK1 _ _ ?_)
 refine W.sr fun K5 hK5 => ?_
 refine zR 3 ?_
 refine zC00 hs3 (sfind_nil (hL := (hs3.oldCells hL)) (i_ := i_) (k_ := k_) B _) fun w6 hs8 => ?_
 refine zE 5 (hK5 _ _ ?_)
 refine W.seq fun K9 hK9 => ?_
 refine W.block ?_
 refine W.sr fun K10 hK10 => ?_
 refine zE 3 (hK10 _ _ ?_)
 refine W.cond_true true (by kernel_rfl) rfl ?_
 refine W.sr fun K11 hK11 => ?_
 refine zE 2 (hK11 _ _ ?_)
 refine W.ret (ret_block (ret_seq ?_))
 have hs12 := St.tk0 hs8
 refine ret_of (.int .i64 2) (by kernel_rfl) ⟨_, ⟨rfl, rfl⟩, hs12⟩

end Go.Proofs.YthimamnblklkbaaDoor

set_option maxRecDepth 20000
namespace Go.Proofs.YthimamnblklkbaaDoor
open Go Go.RowKit
set_option linter.unusedSimpArgs false
set_option linter.unusedVariables false

theorem sload_nil {i_ k_ : Int} (B : Nat) (w : World) (hL : CellsAt (some ⟨1, 0, none⟩) [(.int .i64 1), (.int .i64 2), (.int .i64 2)] w) : Spec Tryd.prog 31 #[(.pointer none), (.int .i64 i_), (.int .i64 k_)] B w [] (fun v H' => v = (.tuple #[(.int .u64 0), (.agg #[(.int .i64 0), (.int .u64 0), (.int .u64 0), (.string ByteArray.empty)]), (.int .i64 2)]) ∧ H' = []) := by
 refine spec_Q Tryd.func31 rfl fun hs => ?_
 refine W.sr fun K1 hK1 => ?_
 refine zR 1 ?_
 refine zN [(.int .i64 0), (.int .u64 0), (.int .u64 0), (.string ByteArray.empty)] 46 hs fun b4 w2 hs3 => ?_
 refine zE 1 (hK1 _ _ ?_)
 refine W.sr fun K5 hK5 => ?_
 refine zR 3 ?_
 refine zC00 hs3 (sfind_nil (hL := (hs3.oldCells hL)) (i_ := i_) (k_ := k_) B _) fun w6 hs8 => ?_
 refine zE 5 (hK5 _ _ ?_)
 refine W.seq fun K9 hK9 => ?_
 refine W.sr fun K10 hK10 => ?_
 refine zE 8 (hK10 _ _ ?_)
 refine W.cond_true true (by kernel_rfl) rfl ?_
 refine W.sr fun K11 hK11 => ?_
 refine zR 3 ?_
 refine ops_store (off := 0) (cs := [(.int .i64 0), (.int .u64 0), (.int .u64 0), (.string ByteArray.empty)]) (vs := [(.int .i64 0), (.int .u64 0), (.int .u64 0), (.string ByteArray.empty)]) hs8 (by kernel_rfl) (by simp) rfl (fun w12 hs13 => ?_)
 have hs14 : St B w [] w12 [blk b4 (.cells [(.int .i64 0), (.int .u64 0), (.int .u64 0), (.string ByteArray.empty)].toArray 46 (0, 0))] := hs13
 refine zE 1 (hK11 _ _ ?_)
 refine W.ret (ret_seq ?_)
 have hs15 := St.tk0 hs14
 refine ret_of (.tuple #[(.int .u64 0), (.agg #[(.int .i64 0), (.int .u64 0), (.int .u64 0), (.string ByteArray.empty)]), (.int .i64 2)]) (resS_of (by kernel_rfl) (resD_three rfl (.tmp (by kernel_rfl)) (.agg (ad := ⟨b4, 0, none⟩) (cs := [(.int .i64 0), (.int .u64 0), (.int .u64 0), (.string ByteArray.empty)]) (by kernel_rfl) (by kernel_rfl) (cells_sub (hs14.heapAt 0 rfl) rfl)) (.tmp (by kernel_rfl)))) ⟨_, ⟨rfl, rfl⟩, hs15⟩

end Go.Proofs.YthimamnblklkbaaDoor

set_option maxRecDepth 20000
namespace Go.Proofs.YthimamnblklkbaaDoor
open Go Go.RowKit
set_option linter.unusedSimpArgs false
set_option linter.unusedVariables false

theorem rblockat_spec {gw gi gb n_ : Int} (B : Nat) (w : World) : Spec Tryd.prog 120 #[(.agg #[(.int .i64 gw), (.int .i64 gi), (.int .i64 gb)]), (.int .i64 n_)] B w [] (fun v H' => v = .int .i64 (placeOf 9 gw gi gb n_) ∧ H' = []) := by
 refine spec_Q Tryd.func120 rfl fun hs => ?_
 refine W.sr fun K1 hK1 => ?_
 refine zN [(.int .i64 gw), (.int .i64 gi), (.int .i64 gb)] 88 hs fun b4 w2 hs3 => ?_
 refine zE 1 (hK1 _ _ ?_)
 refine W.seq fun K5 hK5 => ?_
 refine W.sr fun K6 hK6 => ?_
 refine ops_R (runs_loadAgg (ad := ⟨b4, 0, none⟩) (cs := [(.int .i64 gw), (.int .i64 gi), (.int .i64 gb)]) (by kernel_rfl) (cells_sub (hs3.heapAt 0 rfl) rfl)) ?_
 refine zC00 hs3 (rmay_spec (gw := gw) (gi := gi) (gb := gb) B _) fun w7 hs9 => ?_
 refine zR 2 ?_
 rcases Bool.eq_false_or_eq_true (!(decide (May gw gi gb))) with h10 | h10
 ·
  have h10p : ¬ (May gw gi gb) := of_decide_eq_false (bnot_true h10)
  refine zS 8 h10 ?_
  refine zS 7 h10 ?_
  refine zE 9 (hK6 _ _ ?_)
  refine W.cond_true true (by kernel_rfl) rfl ?_
  refine W.sr fun K11 hK11 => ?_
  refine zE 1 (hK11 _ _ ?_)
  refine W.ret (ret_seq ?_)
  have hs12 := St.tk0 hs9
  refine ret_of (.int .i64 (-1)) (by kernel_rfl) ⟨_, ⟨congrArg (Value.int .i64) (by by_cases hm : May gw gi gb <;> first | contradiction | (have hm_ : (1 ≤ gw ∧ gw ≤ 4) ∧ (2 ≤ gi ∧ gi ≤ 64) ∧ (2 ≤ gb ∧ gb ≤ 512) := hm; simp only [placeOf, if_pos hm]; split <;> omega) | (simp only [placeOf, if_neg hm]; done)), rfl⟩, hs12⟩
 ·
  have h10p : May gw gi gb := of_decide_eq_true (bnot_false h10)
  have hm : May gw gi gb := h10p
  have hm_ : (1 ≤ gw ∧ gw ≤ 4) ∧ (2 ≤ gi ∧ gi ≤ 64) ∧ (2 ≤ gb ∧ gb ≤ 512) := hm
  refine zS 8 h10 ?_
  refine zS 7 h10 ?_
  refine zR 4 ?_
  rcases Bool.eq_false_or_eq_true (decide (n_ < 0)) with h13 | h13
  ·
   have h13p := of_decide_eq_true h13
   refine zS 12 h13 ?_
   refine zS 10 h13 ?_
   refine zS 11 h13 ?_
   refine zE 5 (hK6 _ _ ?_)
   refine W.cond_true true (by kernel_rfl) rfl ?_
   refine W.sr fun K14 hK14 => ?_
   refine zE 1 (hK14 _ _ ?_)
   refine W.ret (ret_seq ?_)
   have hs15 := St.tk0 hs9
   refine ret_of (.int .i64 (-1)) (by kernel_rfl) ⟨_, ⟨congrArg (Value.int .i64) (by by_cases hm : May gw gi gb <;> first | contradiction | (have hm_ : (1 ≤ gw ∧ gw ≤ 4) ∧ (2 ≤ gi ∧ gi ≤ 64) ∧ (2 ≤ gb ∧ gb ≤ 512) := hm; simp only [placeOf, if_pos hm]; split <;> omega) | (simp only [placeOf, if_neg hm]; done)), rfl⟩, hs15⟩
  ·
   have h13p := of_decide_eq_false h13
   refine zS 12 h13 ?_
   refine zS 10 h13 ?_
   refine zS 11 h13 ?_
   refine zR 2 ?_
   refine zL ⟨b4, 2, none⟩ (.int .i64 gb) (hs9.cellAt 0 rfl rfl) ?_
   refine zE 2 (hK6 _ _ ?_)
   refine W.cond (decide (n_ ≥ gb)) (by kernel_rfl) (fun h16 => ?_) (fun h16 => ?_)
   ·
    have h16p := of_decide_eq_true h16
    refine W.sr fun K17 hK17 => ?_
    refine zE 1 (hK17 _ _ ?_)
    refine W.ret (ret_seq ?_)
    have hs18 := St.tk0 hs9
    refine ret_of (.int .i64 (-1)) (by kernel_rfl) ⟨_, ⟨congrArg (Value.int .i64) (by by_cases hm : May gw gi gb <;> first | contradiction | (have hm_ : (1 ≤ gw ∧ gw ≤ 4) ∧ (2 ≤ gi ∧ gi ≤ 64) ∧ (2 ≤ gb ∧ gb ≤ 512) := hm; simp only [placeOf, if_pos hm]; split <;> omega) | (simp only [placeOf, if_neg hm]; done)), rfl⟩, hs18⟩
   ·
    have h16p := of_decide_eq_false h16
    refine W.skip ?_
    refine hK5 _ _ ?_
    refine W.seq fun K19 hK19 => ?_
    have hs20 := hs9.drew
    refine W.regionD [(0, 0), (1, 1), (2, 2), (0, 0), (8, 8), (16, 16), (36, 36), (0, 0), (128, 128), (320, 320), (1023, 512)] (fun w_ => St B w [] w_ [blk b4 (.cells [(.int .i64 gw), (.int .i64 gi), (.int .i64 gb)].toArray 88 (0, 0))]) (by kernel_rfl) hs20 ?_
    refine any_R 0 (by kernel_rfl) (fun _ hS_ => runs_loadAgg (ad := ⟨b4, 0, none⟩) (cs := [(.int .i64 gw), (.int .i64 gi), (.int .i64 gb)]) (by kernel_rfl) (cells_sub (hS_.heapAt 0 rfl) rfl)) hs20 ?_
    refine any_val (v := (.pointer (some ⟨b4, 1, none⟩))) (v' := (.pointer (some ⟨b4, 1, none⟩))) 3 (by kernel_rfl) (fun _ => by kernel_rfl) rfl hs20 ?_
    refine any_R 4 (by kernel_rfl) (fun _ hS_ => runs_load (ad := ⟨b4, 1, none⟩) (v := (.int .i64 gi)) (by kernel_rfl) (hS_.cellAt 0 rfl rfl)) hs20 ?_
    refine any_val (v := .int .i64 (IntKind.i64.wrap (16 * gi))) (v' := .int .i64 (16 * gi)) 5 (by kernel_rfl) (fun _ => by kernel_rfl) (congrArg (Value.int .i64) (wrap_i64 (by omega) (by omega))) hs20 ?_
    refine any_val (v := (.int .i64 n_)) (v' := (.int .i64 n_)) 7 (by kernel_rfl) (fun _ => by kernel_rfl) rfl hs20 ?_
    refine any_val (v := .int .i64 (IntKind.i64.wrap (8 * n_))) (v' := .int .i64 (8 * n_)) 8 (by kernel_rfl) (fun _ => by kernel_rfl) (congrArg (Value.int .i64) (wrap_i64 (by omega) (by omega))) hs20 ?_
    refine any_step 1 (by kernel_rfl) (by kernel_rfl) ?_
    refine zC00 hs20 (maps_spec (hm := hm) (gw := gw) (gi := gi) (gb := gb) B _) fun w21 hs23 => ?_
    refine ops_done (by kernel_rfl) ⟨hs23, ?_⟩
    refine any_val (v := .int .i64 (IntKind.i64.wrap ((264 + 208 * gw) + 16))) (v' := .int .i64 ((264 + 208 * gw) + 16)) 2 (by kernel_rfl) (fun _ => by kernel_rfl) (congrArg (Value.int .i64) (wrap_i64 (by omega) (by omega))) hs23 ?_
    refine any_val (v := .int .i64 (IntKind.i64.wrap (((264 + 208 * gw) + 16) + (16 * gi)))) (v' := .int .i64 (((264 + 208 * gw) + 16) + (16 * gi))) 6 (by kernel_rfl) (fun _ => by kernel_rfl) (congrArg (Value.int .i64) (wrap_i64 (by omega) (by omega))) hs23 ?_
    refine any_val (v := .int .i64 (IntKind.i64.wrap ((((264 + 208 * gw) + 16) + (16 * gi)) + (8 * n_)))) (v' := .int .i64 ((((264 + 208 * gw) + 16) + (16 * gi)) + (8 * n_))) 9 (by kernel_rfl) (fun _ => by kernel_rfl) (congrArg (Value.int .i64) (wrap_i64 (by omega) (by omega))) hs23 ?_
    refine any_val (v := (.int .i64 ((((264 + 208 * gw) + 16) + (16 * gi)) + (8 * n_)))) (v' := (.int .i64 ((((264 + 208 * gw) + 16) + (16 * gi)) + (8 * n_)))) 10 (by kernel_rfl) (fun _ => by kernel_rfl) rfl hs23 ?_
    refine any_done (by kernel_rfl) ?_
    refine hK19 _ _ ?_
    refine W.ret ?_
    have hs24 := St.tk0 hs23
    refine ret_of (.int .i64 ((((264 + 208 * gw) + 16) + (16 * gi)) + (8 * n_))) (by kernel_rfl) ⟨_, ⟨congrArg (Value.int .i64) (by by_cases hm : May gw gi gb <;> first | contradiction | (have hm_ : (1 ≤ gw ∧ gw ≤ 4) ∧ (2 ≤ gi ∧ gi ≤ 64) ∧ (2 ≤ gb ∧ gb ≤ 512) := hm; simp only [placeOf, if_pos hm]; split <;> omega) | (simp only [placeOf, if_neg hm]; done)), rfl⟩, hs24⟩

end Go.Proofs.YthimamnblklkbaaDoor

namespace Go.Proofs.YthimamnblklkbaaDoor
open Go Go.RowKit

theorem vlook_vset {l : List (Int × Int)} {k v k' : Int} : vlook (vset l k v) k' = if k' = k then some v else vlook l k' := by
  cases hl : vlook l k with
  | none =>
    rw [vset_none hl]
    unfold vlook
    rw [List.find?_append]
    by_cases h : k' = k
    · subst h
      have h0 : l.find? (fun p => p.1 == k') = none := by
        unfold vlook at hl
        simpa using hl
      simp [h0]
    · have : ((k == k') : Bool) = false := by simpa using fun e => h e.symm
      simp [this, h]
  | some x =>
    have e : vset l k v = l.map fun p => if p.1 = k then (k, v) else p := by unfold vset; rw [hl]
    rw [e]
    clear e
    unfold vlook at hl ⊢
    induction l with
    | nil => simp at hl
    | cons p l ih =>
      by_cases hp : p.1 = k
      · by_cases h : k' = k
        · subst h; simp [hp]
        · have h1 : ((k == k') : Bool) = false := by simpa using fun e => h e.symm
          simp only [List.map_cons, hp, if_true, List.find?_cons, h1, h, if_false]
          have : ∀ m : List (Int × Int), (m.map fun p => if p.1 = k then (k, v) else p).find? (fun p => p.1 == k') = m.find? (fun p => p.1 == k') := by
            intro m
            induction m with
            | nil => rfl
            | cons q m ihm =>
              by_cases hq : q.1 = k
              · simp only [List.map_cons, hq, if_true, List.find?_cons, h1, ihm]
              · simp only [List.map_cons, hq, if_false, List.find?_cons, ihm]
          rw [this]
          try rfl
      · have hp' : ((p.1 == k) : Bool) = false := by simpa using hp
        simp only [List.find?_cons, hp'] at hl
        simp only [List.map_cons, hp, if_false, List.find?_cons]
        cases hq : (p.1 == k') with
        | true =>
          have : ¬ k' = k := by
            intro e; subst e; simp at hq; exact hp hq
          simp [this]
        | false =>
          have := ih (by simpa using hl)
          simpa using this

theorem vflat_get0 : ∀ {l : List (Int × Int)} {img : List Int}, Keys l → inside img.length l → ∀ {k : Nat}, k < img.length → (vflat img l).getD k 0 = (vlook l (k : Int)).getD (img.getD k 0)
  | [], img, _, _, k, hk => by simp [vflat, vlook]
  | p :: l, img, hn, hi, k, hk => by
    have hn' : Keys l := by simp only [Keys, List.map_cons, List.nodup_cons] at hn; exact hn.2
    have hp := hi p (List.mem_cons_self ..)
    have h1 := vflat_get0 (l := l) (img := img.set p.1.toNat p.2) hn' (by rw [List.length_set]; exact fun q hq => hi q (List.mem_cons_of_mem _ hq)) (k := k) (by simpa using hk)
    have e : vflat img (p :: l) = vflat (img.set p.1.toNat p.2) l := rfl
    rw [e, h1]
    by_cases h : p.1 = (k : Int)
    · have hnone : vlook l (k : Int) = none := by
        unfold vlook
        rw [Option.map_eq_none_iff, List.find?_eq_none]
        intro q hq hk'
        simp only [Keys, List.map_cons, List.nodup_cons, List.mem_map, not_exists, not_and] at hn
        exact hn.1 q hq (by rw [h]; simpa using hk')
      rw [hnone]
      have e2 : p.1.toNat = k := by omega
      rw [e2]
      simp [vlook, h, hk]
    · have e2 : ¬ p.1.toNat = k := by omega
      have e3 : ((p.1 == (k : Int)) : Bool) = false := by simpa using h
      have e4 : vlook (p :: l) (k : Int) = vlook l (k : Int) := by simp only [vlook, List.find?_cons, e3]
      rw [e4]
      congr 1
      simp [List.getD, List.getElem?_set_ne e2]

theorem vflat_get {l : List (Int × Int)} {img : List Int} (h : VOk img l) {k : Nat} (hk : k < img.length) : (vflat img l).getD k 0 = vget img l (k : Int) := by
  rw [vflat_get0 h.keys h.inside hk]
  simp only [vget]
  rw [if_pos (by omega)]
  rfl
theorem vget_nil {img : List Int} {k : Nat} (hk : k < img.length) : vget img [] (k : Int) = img.getD k 0 := by
  simp only [vget]
  rw [if_pos (by omega)]
  rfl
theorem vput_len (img : List Int) (l : List (Int × Int)) (a x : Int) : (vput img l a x).2.length ≤ l.length + 1 := by
  unfold vput
  split
  · cases hl : vlook l a with
    | some y => simp only; rw [vset_length_some (by rw [hl]; rfl)]; omega
    | none =>
      simp only
      split
      · simp
      · rw [vset_none hl]; simp
  · simp
theorem vput_in {img : List Int} {l : List (Int × Int)} {a x : Int} (h : 0 ≤ a ∧ a < img.length) (hm : l.length < 96) : vput img l a x = (0, vset l a x) := by
  simp only [vput]
  rw [if_pos h]
  cases vlook l a with
  | some y => rfl
  | none => exact if_neg (by omega)
theorem vget_vset {img : List Int} {l : List (Int × Int)} {a x k : Int} (h : 0 ≤ a ∧ a < img.length) : vget img (vset l a x) k = if k = a then x else vget img l k := by
  simp only [vget, vlook_vset]
  by_cases hk : k = a
  · subst hk; simp [h]
  · simp [hk]
end Go.Proofs.YthimamnblklkbaaDoor

set_option linter.unusedVariables false
set_option maxRecDepth 20000
set_option maxHeartbeats 8000000
namespace Go.Proofs.YthimamnblklkbaaDoor
open Go Go.RowKit
set_option linter.unusedSimpArgs false
set_option linter.unusedVariables false

def works10_M  : Option (Bool) :=
 need ((fmtW 1 2 2).length ≤ 17592186044415) <|
(sget_M (fmtW 1 2 2) ([]) 0).bind fun r16 =>
(sload_M (fmtW 1 2 2) ([]) 0 1).bind fun r28 =>
(ssave_M (fmtW 1 2 2) ([]) 0 1 5 0 7 0 (ByteArray.mk #[97, 98])).bind fun r47 =>
(sload_M (fmtW 1 2 2) r47.2 0 1).bind fun r54 =>
(swipe_M (fmtW 1 2 2) r47.2 0).bind fun r72 =>
if r16.2.2.2 = 0 then (if r16.1 = false ∧ r16.2.1 = 0 ∧ r16.2.2.1 = 0 then (if r28.2.2.2.2.2 = 0 then (if r28.1 = 0 then (if r28.2.1 = 0 ∧ r28.2.2.1 = 0 ∧ r28.2.2.2.1 = 0 ∧ r28.2.2.2.2.1 = ByteArray.empty then (if r47.1 = 0 then (if r54.2.2.2.2.2 = 0 then (if r54.1 = 5 then (if r54.2.1 = 0 ∧ r54.2.2.1 = 7 ∧ r54.2.2.2.1 = 0 ∧ r54.2.2.2.2.1 = (ByteArray.mk #[97, 98]) then (need (r47.2.length ≤ 9223372036854775806) <|
if r47.2 = ([(29, 512), (30, 7), (32, 25185), (28, 5)]) then (if r72.1 = 0 then (some (decide ((vget (fmtW 1 2 2) r72.2 28) = 0))) else (some false)) else (some false)) else (some false)) else (some false)) else (some false)) else (some false)) else (some false)) else (some false)) else (some false)) else (some false)) else (some false)

theorem works10_walk   {r : Bool} (B : Nat) (w : World) (hG2 : 1 < B) (hL : CellsAt (some ⟨1, 0, none⟩) [(.int .i64 1), (.int .i64 2), (.int .i64 2)] w) (hm : works10_M = some r) : Spec Tryd.prog 36 #[] B w [] (fun v H' => v = .bool r ∧ H' = []) := by
 refine spec_Q Tryd.func36 rfl fun hs => ?_
 unfold works10_M at hm
 refine W.sr fun K1 hK1 => ?_
 refine zE 1 (hK1 _ _ ?_)
 refine W.sr fun K2 hK2 => ?_
 refine zR 1 ?_
 refine ops_call0 hs (by kernel_rfl) (format_spec (gw := 1) (gi := 2) (gb := 2) B _) ?_
 rintro _ _ w5 ⟨a3, c4, rfl, rfl⟩ hs6
 have hs7 := St.ap1 hs6
 obtain ⟨h9, hm⟩ := need_some hm
 refine ops_call0 hs7 (by kernel_rfl) (new_spec (hc := (St.kcells kU64 hs7 0 rfl)) (hn := (St.capnil kU64 hs7 0 rfl)) (hsz := h9) B _) ?_
 rintro _ _ w10 ⟨b8, rfl, rfl⟩ hs11
 have hs12 := St.ap1 hs11
 refine zE 1 (hK2 _ _ ?_)
 refine W.seq fun K13 hK13 => ?_
 refine W.sr fun K14 hK14 => ?_
 refine zE 2 (hK14 _ _ ?_)
 refine W.cond_false false (by kernel_rfl) rfl ?_
 refine W.skip ?_
 refine hK13 _ _ ?_
 refine W.sr fun K15 hK15 => ?_
 refine zR 1 ?_
 obtain ⟨r16, h17, hm⟩ := bind_some hm
 refine zC00 hs12 (sget_walk (i_ := 0) (img := (fmtW 1 2 2)) (l := []) (hL := (hs12.oldCells hL)) (hv := (hs12.entAt 0 rfl viewA_at)) (hm := h17) B _) fun w18 hs20 => ?_
 refine zR 3 ?_
 refine zN [(.bool false), (.int .u64 0), (.int .u64 0)] 48 hs20 fun b23 w21 hs22 => ?_
 refine ops_store (off := 0) (cs := [(.bool false), (.int .u64 0), (.int .u64 0)]) (vs := [(.bool r16.1), (.int .u64 r16.2.1), (.int .u64 r16.2.2.1)]) hs22 (by kernel_rfl) (by simp) rfl (fun w24 hs25 => ?_)
 have hs26 : St B w [] w24 [blk b23 (.cells [(.bool r16.1), (.int .u64 r16.2.1), (.int .u64 r16.2.2.1)].toArray 48 (0, 0)), viewA (ptr b8) (fmtW 1 2 2) ([]), kU64.row a3 c4 (fmtW 1 2 2)] := hs25
 refine zE 1 (hK15 _ _ ?_)
 refine W.sr fun K27 hK27 => ?_
 refine zR 1 ?_
 obtain ⟨r28, h29, hm⟩ := bind_some hm
 refine zC00 hs26 (sload_walk (i_ := 0) (k_ := 1) (img := (fmtW 1 2 2)) (l := []) (hL := (hs26.oldCells hL)) (hv := (hs26.entAt 1 rfl viewA_at)) (hm := h29) B _) fun w30 hs32 => ?_
 refine zR 4 ?_
 refine zN [(.int .i64 0), (.int .u64 0), (.int .u64 0), (.string ByteArray.empty)] 46 hs32 fun b35 w33 hs34 => ?_
 refine zR 1 ?_
 refine ops_store (off := 0) (cs := [(.int .i64 0), (.int .u64 0), (.int .u64 0), (.string ByteArray.empty)]) (vs := [(.int .i64 r28.2.1), (.int .u64 r28.2.2.1), (.int .u64 r28.2.2.2.1), (.string r28.2.2.2.2.1)]) hs34 (by kernel_rfl) (by simp) rfl (fun w36 hs37 => ?_)
 have hs38 : St B w [] w36 [blk b35 (.cells [(.int .i64 r28.2.1), (.int .u64 r28.2.2.1), (.int .u64 r28.2.2.2.1), (.string r28.2.2.2.2.1)].toArray 46 (0, 0)), blk b23 (.cells [(.bool r16.1), (.int .u64 r16.2.1), (.int .u64 r16.2.2.1)].toArray 48 (0, 0)), viewA (ptr b8) (fmtW 1 2 2) ([]), kU64.row a3 c4 (fmtW 1 2 2)] := hs37
 refine zE 1 (hK27 _ _ ?_)
 refine W.sr fun K39 hK39 => ?_
 refine zR 1 ?_
 refine zN [(.int .i64 0), (.int .u64 0), (.int .u64 0), (.string ByteArray.empty)] 46 hs38 fun b42 w40 hs41 => ?_
 refine ops_store (off := 0) (cs := [(.int .i64 0), (.int .u64 0), (.int .u64 0), (.string ByteArray.empty)]) (vs := [(.int .i64 0), (.int .u64 7), (.int .u64 0), (.string (ByteArray.mk #[97, 98]))]) hs41 (by kernel_rfl) (by simp) rfl (fun w43 hs44 => ?_)
 have hs45 : St B w [] w43 [blk b42 (.cells [(.int .i64 0), (.int .u64 7), (.int .u64 0), (.string (ByteArray.mk #[97, 98]))].toArray 46 (0, 0)), blk b35 (.cells [(.int .i64 r28.2.1), (.int .u64 r28.2.2.1), (.int .u64 r28.2.2.2.1), (.string r28.2.2.2.2.1)].toArray 46 (0, 0)), blk b23 (.cells [(.bool r16.1), (.int .u64 r16.2.1), (.int .u64 r16.2.2.1)].toArray 48 (0, 0)), viewA (ptr b8) (fmtW 1 2 2) ([]), kU64.row a3 c4 (fmtW 1 2 2)] := hs44
 refine zD (hK39 _ _ ?_)
 refine W.sr fun K46 hK46 => ?_
 refine zR 1 ?_
 refine ops_R (runs_loadAgg (ad := ⟨b42, 0, none⟩) (cs := [(.int .i64 0), (.int .u64 7), (.int .u64 0), (.string (ByteArray.mk #[97, 98]))]) (by kernel_rfl) (cells_sub (hs45.heapAt 0 rfl) rfl)) ?_
 obtain ⟨r47, h48, hm⟩ := bind_some hm
 have hs49 := St.f3 hs45
 refine zC11 hs49 (ssave_walk (vb := b8) (i_ := 0) (k_ := 1) (q_ := 5) (re_ := 0) (ra_ := 7) (rb_ := 0) (rs_ := (ByteArray.mk #[97, 98])) (img := (fmtW 1 2 2)) (l := []) (hG2 := hG2) (hL := (hs45.oldCells hL)) (hm := h48) B _) fun w50 hs52 => ?_
 refine zE 1 (hK46 _ _ ?_)
 refine W.sr fun K53 hK53 => ?_
 refine zR 1 ?_
 obtain ⟨r54, h55, hm⟩ := bind_some hm
 refine zC00 hs52 (sload_walk (i_ := 0) (k_ := 1) (img := (fmtW 1 2 2)) (l := r47.2) (hL := (hs52.oldCells hL)) (hv := (hs52.entAt 0 rfl viewA_at)) (hm := h55) B _) fun w56 hs58 => ?_
 refine zR 4 ?_
 refine zN [(.int .i64 0), (.int .u64 0), (.int .u64 0), (.string ByteArray.empty)] 46 hs58 fun b61 w59 hs60 => ?_
 refine zR 1 ?_
 refine ops_store (off := 0) (cs := [(.int .i64 0), (.int .u64 0), (.int .u64 0), (.string ByteArray.empty)]) (vs := [(.int .i64 r54.2.1), (.int .u64 r54.2.2.1), (.int .u64 r54.2.2.2.1), (.string r54.2.2.2.2.1)]) hs60 (by kernel_rfl) (by simp) rfl (fun w62 hs63 => ?_)
 have hs64 : St B w [] w62 [blk b61 (.cells [(.int .i64 r54.2.1), (.int .u64 r54.2.2.1), (.int .u64 r54.2.2.2.1), (.string r54.2.2.2.2.1)].toArray 46 (0, 0)), viewA (ptr b8) (fmtW 1 2 2) r47.2, blk b42 (.cells [(.int .i64 0), (.int .u64 7), (.int .u64 0), (.string (ByteArray.mk #[97, 98]))].toArray 46 (0, 0)), blk b35 (.cells [(.int .i64 r28.2.1), (.int .u64 r28.2.2.1), (.int .u64 r28.2.2.2.1), (.string r28.2.2.2.2.1)].toArray 46 (0, 0)), blk b23 (.cells [(.bool r16.1), (.int .u64 r16.2.1), (.int .u64 r16.2.2.1)].toArray 48 (0, 0)), kU64.row a3 c4 (fmtW 1 2 2)] := hs63
 refine zE 1 (hK53 _ _ ?_)
 refine W.sr fun K65 hK65 => ?_
 refine zR 1 ?_
 refine ops_call0 hs64 (by kernel_rfl) (writes_spec (hv := (hs64.entAt 1 rfl viewA_at)) B _) ?_
 rintro _ _ w68 ⟨a66, c67, rfl, rfl⟩ hs69
 have hs70 := St.ap1 hs69
 refine zE 1 (hK65 _ _ ?_)
 refine W.sr fun K71 hK71 => ?_
 refine zR 1 ?_
 obtain ⟨r72, h73, hm⟩ := bind_some hm
 have hs74 := St.f2 hs70
 refine zC11 hs74 (swipe_walk (vb := b8) (i_ := 0) (img := (fmtW 1 2 2)) (l := r47.2) (hG2 := hG2) (hL := (hs70.oldCells hL)) (hm := h73) B _) fun w75 hs77 => ?_
 refine zE 1 (hK71 _ _ ?_)
 refine W.sr fun K78 hK78 => ?_
 refine zR 3 ?_
 rcases Bool.eq_false_or_eq_true (decide (r16.2.2.2 = 0)) with h79 | h79
 ·
  obtain ⟨h79p, hm⟩ := iY hm h79
  refine zS 46 h79 ?_
  refine zS 45 h79 ?_
  refine ops_R (runs_loadAgg (ad := ⟨b23, 0, none⟩) (cs := [(.bool r16.1), (.int .u64 r16.2.1), (.int .u64 r16.2.2.1)]) (by kernel_rfl) (cells_sub (hs77.heapAt 5 rfl) rfl)) ?_
  refine zR 1 ?_
  refine ops_R (v := (.bool ((r16.1 == false) && ((decide (r16.2.1 = 0)) && ((decide (r16.2.2.1 = 0)) && true))))) (runs_eq (b := ((r16.1 == false) && ((decide (r16.2.1 = 0)) && ((decide (r16.2.2.1 = 0)) && true)))) (by kernel_rfl)) ?_
  refine zR 2 ?_
  rcases Bool.eq_false_or_eq_true ((r16.1 == false) && ((decide (r16.2.1 = 0)) && ((decide (r16.2.2.1 = 0)) && true))) with h80 | h80
  ·
   have h80p : r16.1 = false ∧ r16.2.1 = 0 ∧ r16.2.2.1 = 0 := by simpa using h80
   replace hm := ite_yes hm h80p
   refine zS 51 h80 ?_
   refine zS 49 h80 ?_
   refine zS 50 h80 ?_
   refine zR 4 ?_
   rcases Bool.eq_false_or_eq_true (decide (r28.2.2.2.2.2 = 0)) with h81 | h81
   ·
    obtain ⟨h81p, hm⟩ := iY hm h81
    refine zS 55 h81 ?_
    refine zS 53 h81 ?_
    refine zS 54 h81 ?_
    refine zR 4 ?_
    rcases Bool.eq_false_or_eq_true (decide (r28.1 = 0)) with h82 | h82
    ·
     obtain ⟨h82p, hm⟩ := iY hm h82
     refine zS 59 h82 ?_
     refine zS 57 h82 ?_
     refine zS 58 h82 ?_
     refine ops_R (runs_loadAgg (ad := ⟨b35, 0, none⟩) (cs := [(.int .i64 r28.2.1), (.int .u64 r28.2.2.1), (.int .u64 r28.2.2.2.1), (.string r28.2.2.2.2.1)]) (by kernel_rfl) (cells_sub (hs77.heapAt 4 rfl) rfl)) ?_
     refine zR 1 ?_
     refine ops_R (v := (.bool ((decide (r28.2.1 = 0)) && ((decide (r28.2.2.1 = 0)) && ((decide (r28.2.2.2.1 = 0)) && ((r28.2.2.2.2.1 == ByteArray.empty) && true)))))) (runs_eq (b := ((decide (r28.2.1 = 0)) && ((decide (r28.2.2.1 = 0)) && ((decide (r28.2.2.2.1 = 0)) && ((r28.2.2.2.2.1 == ByteArray.empty) && true))))) (by kernel_rfl)) ?_
     refine zR 2 ?_
     rcases Bool.eq_false_or_eq_true ((decide (r28.2.1 = 0)) && ((decide (r28.2.2.1 = 0)) && ((decide (r28.2.2.2.1 = 0)) && ((r28.2.2.2.2.1 == ByteArray.empty) && true)))) with h83 | h83
     ·
      have h83p : r28.2.1 = 0 ∧ r28.2.2.1 = 0 ∧ r28.2.2.2.1 = 0 ∧ r28.2.2.2.2.1 = ByteArray.empty := by simpa using h83
      replace hm := ite_yes hm h83p
      refine zS 64 h83 ?_
      refine zS 62 h83 ?_
      refine zS 63 h83 ?_
      refine zR 4 ?_
      rcases Bool.eq_false_or_eq_true (decide (r47.1 = 0)) with h84 | h84
      ·
       obtain ⟨h84p, hm⟩ := iY hm h84
       refine zS 68 h84 ?_
       refine zS 66 h84 ?_
       refine zS 67 h84 ?_
       refine zR 4 ?_
       rcases Bool.eq_false_or_eq_true (decide (r54.2.2.2.2.2 = 0)) with h85 | h85
       ·
        obtain ⟨h85p, hm⟩ := iY hm h85
        refine zS 72 h85 ?_
        refine zS 70 h85 ?_
        refine zS 71 h85 ?_
        refine zR 4 ?_
        rcases Bool.eq_false_or_eq_true (decide (r54.1 = 5)) with h86 | h86
        ·
         obtain ⟨h86p, hm⟩ := iY hm h86
         refine zS 76 h86 ?_
         refine zS 74 h86 ?_
         refine zS 75 h86 ?_
         refine ops_R (runs_loadAgg (ad := ⟨b61, 0, none⟩) (cs := [(.int .i64 r54.2.1), (.int .u64 r54.2.2.1), (.int .u64 r54.2.2.2.1), (.string r54.2.2.2.2.1)]) (by kernel_rfl) (cells_sub (hs77.heapAt 2 rfl) rfl)) ?_
         refine ops_R (runs_loadAgg (ad := ⟨b42, 0, none⟩) (cs := [(.int .i64 0), (.int .u64 7), (.int .u64 0), (.string (ByteArray.mk #[97, 98]))]) (by kernel_rfl) (cells_sub (hs77.heapAt 3 rfl) rfl)) ?_
         refine ops_R (v := (.bool ((decide (r54.2.1 = 0)) && ((decide (r54.2.2.1 = 7)) && ((decide (r54.2.2.2.1 = 0)) && ((r54.2.2.2.2.1 == (ByteArray.mk #[97, 98])) && true)))))) (runs_eq (b := ((decide (r54.2.1 = 0)) && ((decide (r54.2.2.1 = 7)) && ((decide (r54.2.2.2.1 = 0)) && ((r54.2.2.2.2.1 == (ByteArray.mk #[97, 98])) && true))))) (by kernel_rfl)) ?_
         refine zR 2 ?_
         rcases Bool.eq_false_or_eq_true ((decide (r54.2.1 = 0)) && ((decide (r54.2.2.1 = 7)) && ((decide (r54.2.2.2.1 = 0)) && ((r54.2.2.2.2.1 == (ByteArray.mk #[97, 98])) && true)))) with h87 | h87
         ·
          have h87p : r54.2.1 = 0 ∧ r54.2.2.1 = 7 ∧ r54.2.2.2.1 = 0 ∧ r54.2.2.2.2.1 = (ByteArray.mk #[97, 98]) := by simpa using h87
          replace hm := ite_yes hm h87p
          refine zS 81 h87 ?_
          refine zS 79 h87 ?_
          refine zS 80 h87 ?_
          refine zR 5 ?_
          refine ops_new (fun b => .slice (some ⟨b, 0, none⟩) 4 4) (.cells [(.int .i64 29), (.int .u64 512), (.int .i64 30), (.int .u64 7), (.int .i64 32), (.int .u64 25185), (.int .i64 28), (.int .u64 5)].toArray 177 (0, 0)) hs77 (by kernel_rfl) (fun b90 w88 hs89 => ?_)
          have hs91 : St B w [] w88 [kWr.row (some ⟨b90, 0, none⟩) 4 ([(29, 512), (30, 7), (32, 25185), (28, 5)]), viewA (ptr b8) (fmtW 1 2 2) r72.2, kWr.row a66 c67 r47.2, blk b61 (.cells [(.int .i64 r54.2.1), (.int .u64 r54.2.2.1), (.int .u64 r54.2.2.2.1), (.string r54.2.2.2.2.1)].toArray 46 (0, 0)), blk b42 (.cells [(.int .i64 0), (.int .u64 7), (.int .u64 0), (.string (ByteArray.mk #[97, 98]))].toArray 46 (0, 0)), blk b35 (.cells [(.int .i64 r28.2.1), (.int .u64 r28.2.2.1), (.int .u64 r28.2.2.2.1), (.string r28.2.2.2.2.1)].toArray 46 (0, 0)), blk b23 (.cells [(.bool r16.1), (.int .u64 r16.2.1), (.int .u64 r16.2.2.1)].toArray 48 (0, 0)), kU64.row a3 c4 (fmtW 1 2 2)] := St.kblk kWr [(29, 512), (30, 7), (32, 25185), (28, 5)] hs89 rfl rfl (by simp only [List.length_cons, List.length_nil]; decide)
          obtain ⟨h92, hm⟩ := need_some hm
          refine zC00 hs91 (same05_spec (xs := r47.2) (ys := [(29, 512), (30, 7), (32, 25185), (28, 5)]) (xc := c67) (yc := 4) (n := r47.2.length) (m := 4) (hn := rfl) (hm := rfl) (hx := (St.kcells kWr hs91 2 rfl)) (hy := (St.kcells kWr hs91 0 rfl)) (hsz := h92) B _) fun w93 hs95 => ?_
          refine zR 2 ?_
          rcases Bool.eq_false_or_eq_true (decide (r47.2 = ([(29, 512), (30, 7), (32, 25185), (28, 5)]))) with h96 | h96
          ·
           obtain ⟨h96p, hm⟩ := iY hm h96
           refine zS 90 h96 ?_
           refine zS 88 h96 ?_
           refine zS 89 h96 ?_
           refine zR 4 ?_
           rcases Bool.eq_false_or_eq_true (decide (r72.1 = 0)) with h97 | h97
           ·
            obtain ⟨h97p, hm⟩ := iY hm h97
            refine zS 94 h97 ?_
            refine zS 92 h97 ?_
            refine zS 93 h97 ?_
            refine zR 1 ?_
            refine zC00 hs95 (get_spec (at_ := 28) (hv := (hs95.entAt 1 rfl viewA_at)) B _) fun w98 hs100 => ?_
            refine zE 3 (hK78 _ _ ?_)
            refine W.ret ?_
            obtain rfl := some_inj hm
            have hs101 := St.tk0 hs100
            refine ret_of (.bool (decide ((vget (fmtW 1 2 2) r72.2 28) = 0))) (by kernel_rfl) ⟨_, ⟨rfl, rfl⟩, hs101⟩
           ·
            obtain ⟨h97p, hm⟩ := iN hm h97
            refine zS 94 h97 ?_
            refine zS 92 h97 ?_
            refine zS 93 h97 ?_
            refine zE 5 (hK78 _ _ ?_)
            refine W.ret ?_
            obtain rfl := some_inj hm
            have hs102 := St.tk0 hs95
            refine ret_of (.bool false) (by kernel_rfl) ⟨_, ⟨rfl, rfl⟩, hs102⟩
          ·
           obtain ⟨h96p, hm⟩ := iN hm h96
           refine zS 90 h96 ?_
           refine zS 88 h96 ?_
           refine zS 89 h96 ?_
           refine zE 9 (hK78 _ _ ?_)
           refine W.ret ?_
           obtain rfl := some_inj hm
           have hs103 := St.tk0 hs95
           refine ret_of (.bool false) (by kernel_rfl) ⟨_, ⟨rfl, rfl⟩, hs103⟩
         ·
          have h87p : ¬ (r54.2.1 = 0 ∧ r54.2.2.1 = 7 ∧ r54.2.2.2.1 = 0 ∧ r54.2.2.2.2.1 = (ByteArray.mk #[97, 98])) := by simpa using h87
          replace hm := ite_no hm h87p
          refine zS 81 h87 ?_
          refine zS 79 h87 ?_
          refine zS 80 h87 ?_
          refine zE 18 (hK78 _ _ ?_)
          refine W.ret ?_
          obtain rfl := some_inj hm
          have hs104 := St.tk0 hs77
          refine ret_of (.bool false) (by kernel_rfl) ⟨_, ⟨rfl, rfl⟩, hs104⟩
        ·
         obtain ⟨h86p, hm⟩ := iN hm h86
         refine zS 76 h86 ?_
         refine zS 74 h86 ?_
         refine zS 75 h86 ?_
         refine zE 23 (hK78 _ _ ?_)
         refine W.ret ?_
         obtain rfl := some_inj hm
         have hs105 := St.tk0 hs77
         refine ret_of (.bool false) (by kernel_rfl) ⟨_, ⟨rfl, rfl⟩, hs105⟩
       ·
        obtain ⟨h85p, hm⟩ := iN hm h85
        refine zS 72 h85 ?_
        refine zS 70 h85 ?_
        refine zS 71 h85 ?_
        refine zE 27 (hK78 _ _ ?_)
        refine W.ret ?_
        obtain rfl := some_inj hm
        have hs106 := St.tk0 hs77
        refine ret_of (.bool false) (by kernel_rfl) ⟨_, ⟨rfl, rfl⟩, hs106⟩
      ·
       obtain ⟨h84p, hm⟩ := iN hm h84
       refine zS 68 h84 ?_
       refine zS 66 h84 ?_
       refine zS 67 h84 ?_
       refine zE 31 (hK78 _ _ ?_)
       refine W.ret ?_
       obtain rfl := some_inj hm
       have hs107 := St.tk0 hs77
       refine ret_of (.bool false) (by kernel_rfl) ⟨_, ⟨rfl, rfl⟩, hs107⟩
     ·
      have h83p : ¬ (r28.2.1 = 0 ∧ r28.2.2.1 = 0 ∧ r28.2.2.2.1 = 0 ∧ r28.2.2.2.2.1 = ByteArray.empty) := by simpa using h83
      replace hm := ite_no hm h83p
      refine zS 64 h83 ?_
      refine zS 62 h83 ?_
      refine zS 63 h83 ?_
      refine zE 35 (hK78 _ _ ?_)
      refine W.ret ?_
      obtain rfl := some_inj hm
      have hs108 := St.tk0 hs77
      refine ret_of (.bool false) (by kernel_rfl) ⟨_, ⟨rfl, rfl⟩, hs108⟩
    ·
     obtain ⟨h82p, hm⟩ := iN hm h82
     refine zS 59 h82 ?_
     refine zS 57 h82 ?_
     refine zS 58 h82 ?_
     refine zE 40 (hK78 _ _ ?_)
     refine W.ret ?_
     obtain rfl := some_inj hm
     have hs109 := St.tk0 hs77
     refine ret_of (.bool false) (by kernel_rfl) ⟨_, ⟨rfl, rfl⟩, hs109⟩
   ·
    obtain ⟨h81p, hm⟩ := iN hm h81
    refine zS 55 h81 ?_
    refine zS 53 h81 ?_
    refine zS 54 h81 ?_
    refine zE 44 (hK78 _ _ ?_)
    refine W.ret ?_
    obtain rfl := some_inj hm
    have hs110 := St.tk0 hs77
    refine ret_of (.bool false) (by kernel_rfl) ⟨_, ⟨rfl, rfl⟩, hs110⟩
  ·
   have h80p : ¬ (r16.1 = false ∧ r16.2.1 = 0 ∧ r16.2.2.1 = 0) := by simpa using h80
   replace hm := ite_no hm h80p
   refine zS 51 h80 ?_
   refine zS 49 h80 ?_
   refine zS 50 h80 ?_
   refine zE 48 (hK78 _ _ ?_)
   refine W.ret ?_
   obtain rfl := some_inj hm
   have hs111 := St.tk0 hs77
   refine ret_of (.bool false) (by kernel_rfl) ⟨_, ⟨rfl, rfl⟩, hs111⟩
 ·
  obtain ⟨h79p, hm⟩ := iN hm h79
  refine zS 46 h79 ?_
  refine zS 45 h79 ?_
  refine zE 53 (hK78 _ _ ?_)
  refine W.ret ?_
  obtain rfl := some_inj hm
  have hs112 := St.tk0 hs77
  refine ret_of (.bool false) (by kernel_rfl) ⟨_, ⟨rfl, rfl⟩, hs112⟩

end Go.Proofs.YthimamnblklkbaaDoor

namespace Go.Proofs.YthimamnblklkbaaDoor
open Go Go.RowKit
set_option maxRecDepth 100000 in
set_option maxHeartbeats 4000000 in
theorem works10_eq : works10_M = some true := by decide +kernel
end Go.Proofs.YthimamnblklkbaaDoor

namespace Go.Proofs.YthimamnblklkbaaDoor
open Go Go.RowKit
set_option linter.unusedSimpArgs false
set_option linter.unusedVariables false

structure TTn where
  c0 : Int
  c1 : Int

def dTn : TTn := (⟨0, 0⟩ : TTn)
def kTn : Kind TTn := ⟨178, 2, fun x => [.int .u16 x.c0, .int .u64 x.c1], by decide, fun _ => rfl, fun _ => rfl⟩
def good_Tn (x : TTn) : Prop := (0 ≤ x.c0 ∧ x.c0 ≤ 65535) ∧ (0 ≤ x.c1 ∧ x.c1 ≤ 18446744073709551615)

end Go.Proofs.YthimamnblklkbaaDoor

namespace Go.Proofs.YthimamnblklkbaaDoor
open Go Go.RowKit
set_option linter.unusedSimpArgs false
set_option linter.unusedVariables false

structure TSt10 where
  c0 : Int
  c1 : Int
  c2 : Int
  c3 : Bool
  c4 : Int
  c5 : Int
  c6 : Int
  c7 : Int
  c8 : Int
  c9 : Int
  c10 : ByteArray
  c11 : Bool

def dSt10 : TSt10 := (⟨0, 0, 0, false, 0, 0, 0, 0, 0, 0, .empty, false⟩ : TSt10)
def kSt10 : Kind TSt10 := ⟨68, 12, fun x => [.int .u8 x.c0, .int .i64 x.c1, .int .i64 x.c2, .bool x.c3, .int .u64 x.c4, .int .u64 x.c5, .int .u64 x.c6, .int .i64 x.c7, .int .u64 x.c8, .int .u64 x.c9, .string x.c10, .bool x.c11], by decide, fun _ => rfl, fun _ => rfl⟩
def good_St10 (x : TSt10) : Prop := (0 ≤ x.c0 ∧ x.c0 ≤ 255) ∧ (-9223372036854775808 ≤ x.c1 ∧ x.c1 ≤ 9223372036854775807) ∧ (-9223372036854775808 ≤ x.c2 ∧ x.c2 ≤ 9223372036854775807) ∧ (0 ≤ x.c4 ∧ x.c4 ≤ 18446744073709551615) ∧ (0 ≤ x.c5 ∧ x.c5 ≤ 18446744073709551615) ∧ (0 ≤ x.c6 ∧ x.c6 ≤ 18446744073709551615) ∧ (-9223372036854775808 ≤ x.c7 ∧ x.c7 ≤ 9223372036854775807) ∧ (0 ≤ x.c8 ∧ x.c8 ≤ 18446744073709551615) ∧ (0 ≤ x.c9 ∧ x.c9 ≤ 18446744073709551615)

structure TRe where
  c0 : Int
  c1 : Int
  c2 : Int
  c3 : ByteArray

def kRe : Kind TRe := ⟨46, 4, fun x => [.int .i64 x.c0, .int .u64 x.c1, .int .u64 x.c2, .string x.c3], by decide, fun _ => rfl, fun _ => rfl⟩
def good_Re (x : TRe) : Prop := (-9223372036854775808 ≤ x.c0 ∧ x.c0 ≤ 9223372036854775807) ∧ (0 ≤ x.c1 ∧ x.c1 ≤ 18446744073709551615) ∧ (0 ≤ x.c2 ∧ x.c2 ≤ 18446744073709551615)

structure THe where
  c0 : Bool
  c1 : Int
  c2 : Int

def kHe : Kind THe := ⟨48, 3, fun x => [.bool x.c0, .int .u64 x.c1, .int .u64 x.c2], by decide, fun _ => rfl, fun _ => rfl⟩
def good_He (x : THe) : Prop := (0 ≤ x.c1 ∧ x.c1 ≤ 18446744073709551615) ∧ (0 ≤ x.c2 ∧ x.c2 ≤ 18446744073709551615)

end Go.Proofs.YthimamnblklkbaaDoor

namespace Go.Proofs.YthimamnblklkbaaDoor
open Go.ChangeShapes Go.WideShapes Go.ChangeAt Go.RowKit Go.Deep

inductive Leaf where
  | int (k : IntKind)
  | bool

def LeafOk : Leaf → Value → Prop
  | .int k, v => ∃ z, v = .int k z ∧ (Lit.int k z).wf = true
  | .bool, v => ∃ b, v = .bool b

def LeavesOk : List Leaf → List Value → Prop
  | [], [] => True
  | k :: ks, v :: vs => LeafOk k v ∧ LeavesOk ks vs
  | _, _ => False

theorem LeavesOk.append : ∀ {ks ks' : List Leaf} {vs vs' : List Value}, LeavesOk ks vs → LeavesOk ks' vs' → LeavesOk (ks ++ ks') (vs ++ vs')
  | [], _, [], _, _, h => h
  | _ :: _, _, _ :: _, _, h, h' => ⟨h.1, LeavesOk.append h.2 h'⟩

def leavesF (P : Program) (lv : TypeId → Option (List Leaf)) : Nat → List Field → Option (List Leaf)
  | _, [] => some []
  | off, f :: fs => match lv f.type with
    | some l => if f.offset = off ∧ P.cellsOf f.type = l.length then (leavesF P lv (off + l.length) fs).map (l ++ ·) else none
    | none => none

def leaves (P : Program) : Nat → TypeId → Option (List Leaf)
  | 0, _ => none
  | m + 1, t => match P.underlying t with
    | some (.int k) => some [.int k]
    | some .bool => some [.bool]
    | some (.struct fs) => match leavesF P (leaves P m) 0 fs.toList with
      | some ks => if P.cellsOf t = ks.length then some ks else none
      | none => none
    | some (.array n e) => match leaves P m e with
      | some l => if P.cellsOf e = l.length ∧ P.cellsOf t = n * l.length then some ((List.replicate n l).flatten) else none
      | none => none
    | _ => none

section
variable {H : Type} {enc : TypeId × Value → H} {P : Program} {w : World} {base : Nat} {sp : Nat → Bool} {held : Bool}

theorem leavesF_ok {lv : TypeId → Option (List Leaf)} (hlv : ∀ (t : TypeId) (ks : List Leaf) (n : Nat) (cs : List Value) (y : DataW H × List MemPlace), lv t = some ks → DataW.trod enc P w base sp held n t cs = some y → LeavesOk ks cs) {cs : List Value} :
    ∀ (fs : List Field) (off : Nat) (ks : List Leaf), leavesF P lv off fs = some ks → (∀ (i : Nat) (f : Field), fs[i]? = some f → ∃ n y, DataW.trod enc P w base sp held n f.type ((cs.drop f.offset).take (P.cellsOf f.type)) = some y) →
      LeavesOk ks ((cs.drop off).take ks.length)
  | [], off, ks, h, _ => by
    simp only [leavesF, Option.some.injEq] at h
    subst h
    simp [LeavesOk]
  | f :: fs, off, ks, h, ht => by
    unfold leavesF at h
    split at h
    · rename_i l hl
      split at h
      · rename_i hc
        simp only [Option.map_eq_some_iff] at h
        obtain ⟨ks', hk', rfl⟩ := h
        obtain ⟨n, y, hy⟩ := ht 0 f rfl
        rw [hc.1, hc.2] at hy
        have h1 := hlv _ _ _ _ _ hl hy
        have h2 := leavesF_ok hlv fs (off + l.length) ks' hk' (fun i g hg => ht (i + 1) g (by simpa using hg))
        have e : (cs.drop off).take (l ++ ks').length = (cs.drop off).take l.length ++ (cs.drop (off + l.length)).take ks'.length := by
          rw [List.length_append, List.take_add, List.drop_drop]
        rw [e]
        exact h1.append h2
      · cases h
    · cases h

theorem leavesA_ok {l : List Leaf} {cs : List Value} : ∀ n : Nat, (∀ i, i < n → LeavesOk l ((cs.drop (i * l.length)).take l.length)) → LeavesOk ((List.replicate n l).flatten) (cs.take (n * l.length))
  | 0, _ => by simp [LeavesOk]
  | n + 1, h => by
    have h1 := leavesA_ok n (fun i hi => h i (by omega))
    have h2 := h n (by omega)
    have e1 : (List.replicate (n + 1) l).flatten = (List.replicate n l).flatten ++ l := by
      rw [List.replicate_succ', List.flatten_append]
      simp
    have e2 : cs.take ((n + 1) * l.length) = cs.take (n * l.length) ++ (cs.drop (n * l.length)).take l.length := by
      rw [Nat.add_mul, Nat.one_mul, List.take_add]
    rw [e1, e2]
    exact h1.append h2

theorem leaves_ok : ∀ (m : Nat) (t : TypeId) (ks : List Leaf) (n : Nat) (cs : List Value) (y : DataW H × List MemPlace), leaves P m t = some ks → DataW.trod enc P w base sp held n t cs = some y → LeavesOk ks cs
  | 0, t, ks, n, cs, y, h, _ => by simp [leaves] at h
  | m + 1, t, ks, n, cs, y, h, hy => by
    unfold leaves at h
    split at h
    · rename_i k hu
      cases h
      obtain ⟨z, rfl, _, hz⟩ := DataW.trod_int hu hy
      exact ⟨⟨z, rfl, hz⟩, trivial⟩
    · rename_i hu
      cases h
      cases n with
      | zero => simp [DataW.trod] at hy
      | succ n =>
        unfold DataW.trod at hy
        rw [hu] at hy
        split at hy <;> simp_all [LeavesOk, LeafOk]
    · rename_i fs hu
      split at h
      · rename_i ks' hks
        split at h
        · rename_i hc
          cases h
          obtain ⟨xs, n', rfl, _, hlen, hxl, hf⟩ := DataW.trod_struct hu hy
          have h1 := leavesF_ok (cs := cs) (leaves_ok m) fs.toList 0 _ hks (fun i f hi => by
            have hi' : fs[i]? = some f := by simpa using hi
            have := hf i f hi'
            have hil : i < xs.length := by rw [hxl]; exact (Array.getElem?_eq_some_iff.1 hi').1
            rw [List.getElem?_eq_getElem hil] at this
            exact ⟨_, _, this⟩)
          simpa [← hc, ← hlen] using h1
        · cases h
      · cases h
    · rename_i k e hu
      split at h
      · rename_i l hl
        split at h
        · rename_i hc
          cases h
          obtain ⟨xs, n', rfl, _, hlen, hxl, hf⟩ := DataW.trod_array hu hy
          have h1 := leavesA_ok (l := l) (cs := cs) k (fun i hi => by
            have := hf i hi
            have hil : i < xs.length := by rw [hxl]; exact hi
            rw [List.getElem?_eq_getElem hil, hc.1] at this
            exact leaves_ok m _ _ _ _ _ hl this)
          simpa [← hc.2, ← hlen] using h1
        · cases h
      · cases h
    · cases h

theorem open_agg {α : Type} (K : Kind α) (good : α → Prop) {fs : Array Field} {ks : List Leaf} (m : Nat) (hs : P.underlying K.e = some (.struct fs)) (hl : leaves P m K.e = some ks) (hread : ∀ cs, LeavesOk ks cs → ∃ x, cs = K.elem x ∧ good x)
    {r : Reach} {b0 : Nat} {v : Value} {d : DataW H} {ps : List MemPlace} (hval : Value.okWide P w r b0 K.e v) (h : DataW.Trod enc P w base sp held K.e v d ps) : ∃ x, v = .agg (K.elem x).toArray ∧ good x := by
  obtain ⟨cs, rfl, _⟩ := okWide_struct hs hval
  obtain ⟨fuel, h⟩ := h
  have h' : DataW.trod enc P w base sp held fuel K.e cs.toList = some (d, ps) := h
  obtain ⟨x, hx, hg⟩ := hread _ (leaves_ok m _ _ _ _ _ hl h')
  exact ⟨x, by rw [← hx], hg⟩
end
theorem leaves_cons {k : Leaf} {ks : List Leaf} : ∀ {cs : List Value}, LeavesOk (k :: ks) cs → ∃ v vs, cs = v :: vs ∧ LeafOk k v ∧ LeavesOk ks vs
  | v :: vs, h => ⟨v, vs, rfl, h.1, h.2⟩
  | [], h => h.elim
theorem leaves_nil : ∀ {cs : List Value}, LeavesOk [] cs → cs = []
  | [], _ => rfl
  | _ :: _, h => h.elim
end Go.Proofs.YthimamnblklkbaaDoor

namespace Go.Proofs.YthimamnblklkbaaDoor
namespace WithText
open Go.ChangeShapes Go.WideShapes Go.ChangeAt Go.RowKit Go.Deep

inductive Leaf where
  | int (k : IntKind)
  | bool
  | string

def LeafOk : Leaf → Value → Prop
  | .int k, v => ∃ z, v = .int k z ∧ (Lit.int k z).wf = true
  | .bool, v => ∃ b, v = .bool b
  | .string, v => ∃ b, v = .string b ∧ b.size ≤ maxLen

def LeavesOk : List Leaf → List Value → Prop
  | [], [] => True
  | k :: ks, v :: vs => LeafOk k v ∧ LeavesOk ks vs
  | _, _ => False

theorem LeavesOk.append : ∀ {ks ks' : List Leaf} {vs vs' : List Value}, LeavesOk ks vs → LeavesOk ks' vs' → LeavesOk (ks ++ ks') (vs ++ vs')
  | [], _, [], _, _, h => h
  | _ :: _, _, _ :: _, _, h, h' => ⟨h.1, LeavesOk.append h.2 h'⟩

def leavesF (P : Program) (lv : TypeId → Option (List Leaf)) : Nat → List Field → Option (List Leaf)
  | _, [] => some []
  | off, f :: fs => match lv f.type with
    | some l => if f.offset = off ∧ P.cellsOf f.type = l.length then (leavesF P lv (off + l.length) fs).map (l ++ ·) else none
    | none => none

def leaves (P : Program) : Nat → TypeId → Option (List Leaf)
  | 0, _ => none
  | m + 1, t => match P.underlying t with
    | some (.int k) => some [.int k]
    | some .bool => some [.bool]
    | some .string => some [.string]
    | some (.struct fs) => match leavesF P (leaves P m) 0 fs.toList with
      | some ks => if P.cellsOf t = ks.length then some ks else none
      | none => none
    | some (.array n e) => match leaves P m e with
      | some l => if P.cellsOf e = l.length ∧ P.cellsOf t = n * l.length then some ((List.replicate n l).flatten) else none
      | none => none
    | _ => none

section
variable {H : Type} {enc : TypeId × Value → H} {P : Program} {w : World} {base : Nat} {sp : Nat → Bool} {held : Bool}

theorem leavesF_ok {lv : TypeId → Option (List Leaf)} (hlv : ∀ (t : TypeId) (ks : List Leaf) (n : Nat) (cs : List Value) (y : DataW H × List MemPlace), lv t = some ks → DataW.trod enc P w base sp held n t cs = some y → LeavesOk ks cs) {cs : List Value} :
    ∀ (fs : List Field) (off : Nat) (ks : List Leaf), leavesF P lv off fs = some ks → (∀ (i : Nat) (f : Field), fs[i]? = some f → ∃ n y, DataW.trod enc P w base sp held n f.type ((cs.drop f.offset).take (P.cellsOf f.type)) = some y) →
      LeavesOk ks ((cs.drop off).take ks.length)
  | [], off, ks, h, _ => by
    simp only [leavesF, Option.some.injEq] at h
    subst h
    simp [LeavesOk]
  | f :: fs, off, ks, h, ht => by
    unfold leavesF at h
    split at h
    · rename_i l hl
      split at h
      · rename_i hc
        simp only [Option.map_eq_some_iff] at h
        obtain ⟨ks', hk', rfl⟩ := h
        obtain ⟨n, y, hy⟩ := ht 0 f rfl
        rw [hc.1, hc.2] at hy
        have h1 := hlv _ _ _ _ _ hl hy
        have h2 := leavesF_ok hlv fs (off + l.length) ks' hk' (fun i g hg => ht (i + 1) g (by simpa using hg))
        have e : (cs.drop off).take (l ++ ks').length = (cs.drop off).take l.length ++ (cs.drop (off + l.length)).take ks'.length := by
          rw [List.length_append, List.take_add, List.drop_drop]
        rw [e]
        exact h1.append h2
      · cases h
    · cases h

theorem leavesA_ok {l : List Leaf} {cs : List Value} : ∀ n : Nat, (∀ i, i < n → LeavesOk l ((cs.drop (i * l.length)).take l.length)) → LeavesOk ((List.replicate n l).flatten) (cs.take (n * l.length))
  | 0, _ => by simp [LeavesOk]
  | n + 1, h => by
    have h1 := leavesA_ok n (fun i hi => h i (by omega))
    have h2 := h n (by omega)
    have e1 : (List.replicate (n + 1) l).flatten = (List.replicate n l).flatten ++ l := by
      rw [List.replicate_succ', List.flatten_append]
      simp
    have e2 : cs.take ((n + 1) * l.length) = cs.take (n * l.length) ++ (cs.drop (n * l.length)).take l.length := by
      rw [Nat.add_mul, Nat.one_mul, List.take_add]
    rw [e1, e2]
    exact h1.append h2

theorem leaves_ok : ∀ (m : Nat) (t : TypeId) (ks : List Leaf) (n : Nat) (cs : List Value) (y : DataW H × List MemPlace), leaves P m t = some ks → DataW.trod enc P w base sp held n t cs = some y → LeavesOk ks cs
  | 0, t, ks, n, cs, y, h, _ => by simp [leaves] at h
  | m + 1, t, ks, n, cs, y, h, hy => by
    unfold leaves at h
    split at h
    · rename_i k hu
      cases h
      obtain ⟨z, rfl, _, hz⟩ := DataW.trod_int hu hy
      exact ⟨⟨z, rfl, hz⟩, trivial⟩
    · rename_i hu
      cases h
      cases n with
      | zero => simp [DataW.trod] at hy
      | succ n =>
        unfold DataW.trod at hy
        rw [hu] at hy
        split at hy <;> simp_all [LeavesOk, LeafOk]
    · rename_i hu
      cases h
      obtain ⟨b, rfl, _, hz⟩ := DataW.trod_string hu hy
      exact ⟨⟨b, rfl, hz⟩, trivial⟩
    · rename_i fs hu
      split at h
      · rename_i ks' hks
        split at h
        · rename_i hc
          cases h
          obtain ⟨xs, n', rfl, _, hlen, hxl, hf⟩ := DataW.trod_struct hu hy
          have h1 := leavesF_ok (cs := cs) (leaves_ok m) fs.toList 0 _ hks (fun i f hi => by
            have hi' : fs[i]? = some f := by simpa using hi
            have := hf i f hi'
            have hil : i < xs.length := by rw [hxl]; exact (Array.getElem?_eq_some_iff.1 hi').1
            rw [List.getElem?_eq_getElem hil] at this
            exact ⟨_, _, this⟩)
          simpa [← hc, ← hlen] using h1
        · cases h
      · cases h
    · rename_i k e hu
      split at h
      · rename_i l hl
        split at h
        · rename_i hc
          cases h
          obtain ⟨xs, n', rfl, _, hlen, hxl, hf⟩ := DataW.trod_array hu hy
          have h1 := leavesA_ok (l := l) (cs := cs) k (fun i hi => by
            have := hf i hi
            have hil : i < xs.length := by rw [hxl]; exact hi
            rw [List.getElem?_eq_getElem hil, hc.1] at this
            exact leaves_ok m _ _ _ _ _ hl this)
          simpa [← hc.2, ← hlen] using h1
        · cases h
      · cases h
    · cases h

theorem open_agg {α : Type} (K : Kind α) (good : α → Prop) {fs : Array Field} {ks : List Leaf} (m : Nat) (hs : P.underlying K.e = some (.struct fs)) (hl : leaves P m K.e = some ks) (hread : ∀ cs, LeavesOk ks cs → ∃ x, cs = K.elem x ∧ good x)
    {r : Reach} {b0 : Nat} {v : Value} {d : DataW H} {ps : List MemPlace} (hval : Value.okWide P w r b0 K.e v) (h : DataW.Trod enc P w base sp held K.e v d ps) : ∃ x, v = .agg (K.elem x).toArray ∧ good x := by
  obtain ⟨cs, rfl, _⟩ := okWide_struct hs hval
  obtain ⟨fuel, h⟩ := h
  have h' : DataW.trod enc P w base sp held fuel K.e cs.toList = some (d, ps) := h
  obtain ⟨x, hx, hg⟩ := hread _ (leaves_ok m _ _ _ _ _ hl h')
  exact ⟨x, by rw [← hx], hg⟩
end
theorem leaves_cons {k : Leaf} {ks : List Leaf} : ∀ {cs : List Value}, LeavesOk (k :: ks) cs → ∃ v vs, cs = v :: vs ∧ LeafOk k v ∧ LeavesOk ks vs
  | v :: vs, h => ⟨v, vs, rfl, h.1, h.2⟩
  | [], h => h.elim
theorem leaves_nil : ∀ {cs : List Value}, LeavesOk [] cs → cs = []
  | [], _ => rfl
  | _ :: _, h => h.elim
end WithText
end Go.Proofs.YthimamnblklkbaaDoor

namespace Go.Proofs.YthimamnblklkbaaDoor
open Go.ChangeShapes Go.WideShapes Go.ChangeAt Go.RowKit Go.Deep
set_option linter.unusedVariables false

theorem leaf_Tn (cs0 : List Value) (e0 : LeavesOk [.int .u16, .int .u64] cs0) : ∃ x, cs0 = kTn.elem x ∧ good_Tn x := by
  obtain ⟨_, cs1, rfl, ⟨z0, rfl, b0⟩, e1⟩ := leaves_cons e0
  obtain ⟨_, cs2, rfl, ⟨z1, rfl, b1⟩, e2⟩ := leaves_cons e1
  obtain rfl := leaves_nil e2
  simp [Lit.wf, IntKind.min, IntKind.max, IntKind.signed, IntKind.bits] at b0 b1
  refine ⟨⟨z0, z1⟩, rfl, ?_⟩
  simp only [good_Tn]
  omega
theorem read_Tn {H : Type} {enc : TypeId × Value → H} {w : World} {base : Nat} {sp : Nat → Bool} (n : Nat) (cs : List Value) (y : DataW H × List MemPlace) (_ : cs.length = kTn.size) (h : DataW.trod enc Tryd.prog w base sp true n kTn.e cs = some y) :
    ∃ x, cs = kTn.elem x ∧ good_Tn x := leaf_Tn cs (leaves_ok (P := Tryd.prog) 6 kTn.e [.int .u16, .int .u64] _ _ _ (by kernel_rfl) h)

theorem leaf_St10 (cs0 : List Value) (e0 : WithText.LeavesOk [.int .u8, .int .i64, .int .i64, .bool, .int .u64, .int .u64, .int .u64, .int .i64, .int .u64, .int .u64, .string, .bool] cs0) : ∃ x, cs0 = kSt10.elem x ∧ good_St10 x := by
  obtain ⟨_, cs1, rfl, ⟨z0, rfl, b0⟩, e1⟩ := WithText.leaves_cons e0
  obtain ⟨_, cs2, rfl, ⟨z1, rfl, b1⟩, e2⟩ := WithText.leaves_cons e1
  obtain ⟨_, cs3, rfl, ⟨z2, rfl, b2⟩, e3⟩ := WithText.leaves_cons e2
  obtain ⟨_, cs4, rfl, ⟨z3, rfl⟩, e4⟩ := WithText.leaves_cons e3
  obtain ⟨_, cs5, rfl, ⟨z4, rfl, b4⟩, e5⟩ := WithText.leaves_cons e4
  obtain ⟨_, cs6, rfl, ⟨z5, rfl, b5⟩, e6⟩ := WithText.leaves_cons e5
  obtain ⟨_, cs7, rfl, ⟨z6, rfl, b6⟩, e7⟩ := WithText.leaves_cons e6
  obtain ⟨_, cs8, rfl, ⟨z7, rfl, b7⟩, e8⟩ := WithText.leaves_cons e7
  obtain ⟨_, cs9, rfl, ⟨z8, rfl, b8⟩, e9⟩ := WithText.leaves_cons e8
  obtain ⟨_, cs10, rfl, ⟨z9, rfl, b9⟩, e10⟩ := WithText.leaves_cons e9
  obtain ⟨_, cs11, rfl, ⟨z10, rfl, _⟩, e11⟩ := WithText.leaves_cons e10
  obtain ⟨_, cs12, rfl, ⟨z11, rfl⟩, e12⟩ := WithText.leaves_cons e11
  obtain rfl := WithText.leaves_nil e12
  simp [Lit.wf, IntKind.min, IntKind.max, IntKind.signed, IntKind.bits] at b0 b1 b2 b4 b5 b6 b7 b8 b9
  refine ⟨⟨z0, z1, z2, z3, z4, z5, z6, z7, z8, z9, z10, z11⟩, rfl, ?_⟩
  simp only [good_St10]
  omega
theorem read_St10 {H : Type} {enc : TypeId × Value → H} {w : World} {base : Nat} {sp : Nat → Bool} (n : Nat) (cs : List Value) (y : DataW H × List MemPlace) (_ : cs.length = kSt10.size) (h : DataW.trod enc Tryd.prog w base sp true n kSt10.e cs = some y) :
    ∃ x, cs = kSt10.elem x ∧ good_St10 x := leaf_St10 cs (WithText.leaves_ok (P := Tryd.prog) 6 kSt10.e [.int .u8, .int .i64, .int .i64, .bool, .int .u64, .int .u64, .int .u64, .int .i64, .int .u64, .int .u64, .string, .bool] _ _ _ (by kernel_rfl) h)

theorem leaf_Re (cs0 : List Value) (e0 : WithText.LeavesOk [.int .i64, .int .u64, .int .u64, .string] cs0) : ∃ x, cs0 = kRe.elem x ∧ good_Re x := by
  obtain ⟨_, cs1, rfl, ⟨z0, rfl, b0⟩, e1⟩ := WithText.leaves_cons e0
  obtain ⟨_, cs2, rfl, ⟨z1, rfl, b1⟩, e2⟩ := WithText.leaves_cons e1
  obtain ⟨_, cs3, rfl, ⟨z2, rfl, b2⟩, e3⟩ := WithText.leaves_cons e2
  obtain ⟨_, cs4, rfl, ⟨z3, rfl, _⟩, e4⟩ := WithText.leaves_cons e3
  obtain rfl := WithText.leaves_nil e4
  simp [Lit.wf, IntKind.min, IntKind.max, IntKind.signed, IntKind.bits] at b0 b1 b2
  refine ⟨⟨z0, z1, z2, z3⟩, rfl, ?_⟩
  simp only [good_Re]
  omega
theorem leaf_He (cs0 : List Value) (e0 : LeavesOk [.bool, .int .u64, .int .u64] cs0) : ∃ x, cs0 = kHe.elem x ∧ good_He x := by
  obtain ⟨_, cs1, rfl, ⟨z0, rfl⟩, e1⟩ := leaves_cons e0
  obtain ⟨_, cs2, rfl, ⟨z1, rfl, b1⟩, e2⟩ := leaves_cons e1
  obtain ⟨_, cs3, rfl, ⟨z2, rfl, b2⟩, e3⟩ := leaves_cons e2
  obtain rfl := leaves_nil e3
  simp [Lit.wf, IntKind.min, IntKind.max, IntKind.signed, IntKind.bits] at b1 b2
  refine ⟨⟨z0, z1, z2⟩, rfl, ?_⟩
  simp only [good_He]
  omega
end Go.Proofs.YthimamnblklkbaaDoor

namespace Go.Proofs.YthimamnblklkbaaDoor
open Go
set_option maxRecDepth 100000 in
theorem seat_make : (Tryd.prog.make == some Rows.bitmapNilRow.make) = true := by kernel_rfl
end Go.Proofs.YthimamnblklkbaaDoor

namespace Go.Proofs.YthimamnblklkbaaDoor
open Go
set_option maxRecDepth 100000 in
theorem seat_lifted : (Rows.bitmapNilRow.lifted == Tryd.prog.liftsFinal) = true := by kernel_rfl
end Go.Proofs.YthimamnblklkbaaDoor

namespace Go.Proofs.YthimamnblklkbaaDoor
open Go
set_option maxRecDepth 100000 in
theorem seat_enter : Tryd.prog.mayEnter = true := by kernel_rfl
end Go.Proofs.YthimamnblklkbaaDoor

namespace Go.Proofs.YthimamnblklkbaaDoor
open Go Go.RowKit
set_option linter.unusedSimpArgs false
set_option linter.unusedVariables false

set_option maxRecDepth 100000 in
theorem seat_main : Tryd.prog.mainIs = some (true, "3ab6015dd7296eaa053908e3eb4ed2591d5fd4a5803232c1494bf8c197d39bb9".toList) := by kernel_rfl
end Go.Proofs.YthimamnblklkbaaDoor

namespace Go.Proofs.YthimamnblklkbaaDoor
open Go Go.RowKit
set_option linter.unusedSimpArgs false
set_option linter.unusedVariables false

set_option maxRecDepth 100000 in
theorem seat_looks : false = Tryd.prog.looks [] := by kernel_rfl
end Go.Proofs.YthimamnblklkbaaDoor

set_option linter.unusedVariables false
set_option maxRecDepth 20000
set_option maxHeartbeats 2000000
namespace Go.Proofs.YthimamnblklkbaaDoor
open Go Go.RowKit
set_option linter.unusedSimpArgs false
set_option linter.unusedVariables false

def rthere_M (img : List Int) (i_ : Int) (k_ : Int) : Option (Int) :=
 if i_ < 0 then (some 1) else (if i_ ≥ 4 then (some 1) else (if k_ < 0 then (some 1) else (if k_ ≥ 4 then (some 1) else (need (-9223372036854775808 ≤ ((sessAt i_) + 64) ∧ ((sessAt i_) + 64) ≤ 9223372036854775807) <|
if (img.length : Int) < ((sessAt i_) + 64) then (some 8) else (some 0)))))

theorem rthere_walk {img : List Int} {l : List (Int × Int)} {i_ : Int} {k_ : Int} {p : Value} {r : Int} (B : Nat) (w : World) (hv : RefAt p img l w) (hm : rthere_M img i_ k_ = some r) : Spec Tryd.prog 108 #[p, (.int .i64 i_), (.int .i64 k_)] B w [] (fun v H' => v = (.int .i64 r) ∧ H' = []) := by
 refine spec_Q Tryd.func108 rfl fun hs => ?_
 unfold rthere_M at hm
 have hv0 := hv
 obtain ⟨x, rfl, hok, hb, hi, ho, hcap⟩ := hv
 have hroom := hok.many
 have hroom2 := hok.size
 refine W.sr fun K1 hK1 => ?_
 refine zE 1 (hK1 _ _ ?_)
 refine W.seq fun K2 hK2 => ?_
 refine W.sr fun K3 hK3 => ?_
 refine zR 3 ?_
 rcases Bool.eq_false_or_eq_true (decide (i_ < 0)) with h4 | h4
 ·
  obtain ⟨h4p, hm⟩ := iY hm h4
  refine zS 9 h4 ?_
  refine zS 8 h4 ?_
  refine zE 11 (hK3 _ _ ?_)
  refine W.cond_true true (by kernel_rfl) rfl ?_
  refine W.sr fun K5 hK5 => ?_
  refine zE 1 (hK5 _ _ ?_)
  refine W.ret (ret_seq ?_)
  obtain rfl := some_inj hm
  refine ret_of (.int .i64 1) (by kernel_rfl) ⟨_, ⟨rfl, rfl⟩, hs⟩
 ·
  obtain ⟨h4p, hm⟩ := iN hm h4
  refine zS 9 h4 ?_
  refine zS 8 h4 ?_
  refine zR 4 ?_
  rcases Bool.eq_false_or_eq_true (decide (i_ ≥ 4)) with h6 | h6
  ·
   obtain ⟨h6p, hm⟩ := iY hm h6
   refine zS 13 h6 ?_
   refine zS 11 h6 ?_
   refine zS 12 h6 ?_
   refine zE 7 (hK3 _ _ ?_)
   refine W.cond_true true (by kernel_rfl) rfl ?_
   refine W.sr fun K7 hK7 => ?_
   refine zE 1 (hK7 _ _ ?_)
   refine W.ret (ret_seq ?_)
   obtain rfl := some_inj hm
   refine ret_of (.int .i64 1) (by kernel_rfl) ⟨_, ⟨rfl, rfl⟩, hs⟩
  ·
   obtain ⟨h6p, hm⟩ := iN hm h6
   refine zS 13 h6 ?_
   refine zS 11 h6 ?_
   refine zS 12 h6 ?_
   refine zR 4 ?_
   rcases Bool.eq_false_or_eq_true (decide (k_ < 0)) with h8 | h8
   ·
    obtain ⟨h8p, hm⟩ := iY hm h8
    refine zS 17 h8 ?_
    refine zS 15 h8 ?_
    refine zS 16 h8 ?_
    refine zE 3 (hK3 _ _ ?_)
    refine W.cond_true true (by kernel_rfl) rfl ?_
    refine W.sr fun K9 hK9 => ?_
    refine zE 1 (hK9 _ _ ?_)
    refine W.ret (ret_seq ?_)
    obtain rfl := some_inj hm
    refine ret_of (.int .i64 1) (by kernel_rfl) ⟨_, ⟨rfl, rfl⟩, hs⟩
   ·
    obtain ⟨h8p, hm⟩ := iN hm h8
    refine zS 17 h8 ?_
    refine zS 15 h8 ?_
    refine zS 16 h8 ?_
    refine zE 3 (hK3 _ _ ?_)
    refine W.cond (decide (k_ ≥ 4)) (by kernel_rfl) (fun h10 => ?_) (fun h10 => ?_)
    ·
     obtain ⟨h10p, hm⟩ := iY hm h10
     refine W.sr fun K11 hK11 => ?_
     refine zE 1 (hK11 _ _ ?_)
     refine W.ret (ret_seq ?_)
     obtain rfl := some_inj hm
     refine ret_of (.int .i64 1) (by kernel_rfl) ⟨_, ⟨rfl, rfl⟩, hs⟩
    ·
     obtain ⟨h10p, hm⟩ := iN hm h10
     refine W.skip ?_
     refine hK2 _ _ ?_
     refine W.seq fun K12 hK12 => ?_
     refine W.seq fun K13 hK13 => ?_
     have hs14 := hs.drew
     refine W.regionD [(0, 0), (1, 1), (2, 2), (4, 4), (8, 8), (0, 0), (32, 32), (64, 64), (144, 144)] (fun w_ => St B w [] w_ []) (by kernel_rfl) hs14 ?_
     refine any_val (v := (.pointer (some ⟨x.b, 0, none⟩))) (v' := (.pointer (some ⟨x.b, 0, none⟩))) 0 (by kernel_rfl) (fun _ => by kernel_rfl) rfl hs14 ?_
     refine any_val (v := (.pointer (some ⟨x.b, 0, none⟩))) (v' := (.pointer (some ⟨x.b, 0, none⟩))) 1 (by kernel_rfl) (fun _ => by kernel_rfl) rfl hs14 ?_
     refine any_val (v := (.pointer (some ⟨x.b, 0, none⟩))) (v' := (.pointer (some ⟨x.b, 0, none⟩))) 2 (by kernel_rfl) (fun _ => by kernel_rfl) rfl hs14 ?_
     refine any_R 3 (by kernel_rfl) (fun _ hS_ => runs_load (ad := ⟨x.b, 0, none⟩) (v := (.slice x.ia img.length x.ic)) (by kernel_rfl) (cell_of_blk (hS_.old hb) rfl)) hs14 ?_
     refine any_val (v := (.int .i64 (img.length : Int))) (v' := (.int .i64 (img.length : Int))) 4 (by kernel_rfl) (fun _ => by kernel_rfl) rfl hs14 ?_
     refine any_val (v := (.int .i64 i_)) (v' := (.int .i64 i_)) 5 (by kernel_rfl) (fun _ => by kernel_rfl) rfl hs14 ?_
     refine any_step 6 (by kernel_rfl) (by kernel_rfl) ?_
     refine zC00 hs14 (rsess_spec (i_ := i_) B _) fun w15 hs17 => ?_
     refine ops_done (by kernel_rfl) ⟨hs17, ?_⟩
     obtain ⟨h18, hm⟩ := need_some hm
     refine any_val (v := .int .i64 (IntKind.i64.wrap ((sessAt i_) + 64))) (v' := .int .i64 ((sessAt i_) + 64)) 7 (by kernel_rfl) (fun _ => by kernel_rfl) (congrArg (Value.int .i64) (wrap_i64 h18.1 h18.2)) hs17 ?_
     refine any_val (v := (.bool (decide ((img.length : Int) < ((sessAt i_) + 64))))) (v' := (.bool (decide ((img.length : Int) < ((sessAt i_) + 64))))) 8 (by kernel_rfl) (fun _ => by kernel_rfl) rfl hs17 ?_
     refine any_done (by kernel_rfl) ?_
     refine hK13 _ _ ?_
     refine W.cond (decide ((img.length : Int) < ((sessAt i_) + 64))) (by kernel_rfl) (fun h19 => ?_) (fun h19 => ?_)
     ·
      obtain ⟨h19p, hm⟩ := iY hm h19
      refine W.sr fun K20 hK20 => ?_
      refine zE 1 (hK20 _ _ ?_)
      refine W.ret (ret_seq ?_)
      obtain rfl := some_inj hm
      refine ret_of (.int .i64 8) (by kernel_rfl) ⟨_, ⟨rfl, rfl⟩, hs17⟩
     ·
      obtain ⟨h19p, hm⟩ := iN hm h19
      refine W.skip ?_
      refine hK12 _ _ ?_
      refine W.sr fun K21 hK21 => ?_
      refine zE 1 (hK21 _ _ ?_)
      refine W.ret ?_
      obtain rfl := some_inj hm
      refine ret_of (.int .i64 0) (by kernel_rfl) ⟨_, ⟨rfl, rfl⟩, hs17⟩

end Go.Proofs.YthimamnblklkbaaDoor

set_option linter.unusedVariables false
set_option maxRecDepth 20000
set_option maxHeartbeats 2000000
namespace Go.Proofs.YthimamnblklkbaaDoor
open Go Go.RowKit
set_option linter.unusedSimpArgs false
set_option linter.unusedVariables false

def rget10_M (img : List Int) (l : List (Int × Int)) (i_ : Int) : Option (Bool × Int × Int × Int) :=
 (rthere_M img i_ 0).bind fun r6 =>
if r6 = 0 then (if (vget img l (sessAt i_)) > 1 then (some (false, 0, 0, 4)) else (need (-9223372036854775808 ≤ ((sessAt i_) + 1) ∧ ((sessAt i_) + 1) ≤ 9223372036854775807) <|
need (-9223372036854775808 ≤ ((sessAt i_) + 2) ∧ ((sessAt i_) + 2) ≤ 9223372036854775807) <|
some (decide ((vget img l (sessAt i_)) = 1), (vget img l ((sessAt i_) + 1)), (vget img l ((sessAt i_) + 2)), 0))) else (some (false, 0, 0, r6))

theorem rget10_walk {img : List Int} {l : List (Int × Int)} {i_ : Int} {p : Value} {r : Bool × Int × Int × Int} (B : Nat) (w : World) (hv : RefAt p img l w) (hm : rget10_M img l i_ = some r) : Spec Tryd.prog 44 #[p, (.int .i64 i_)] B w [] (fun v H' => v = (.tuple #[(.agg #[(.bool r.1), (.int .u64 r.2.1), (.int .u64 r.2.2.1)]), (.int .i64 r.2.2.2)]) ∧ H' = []) := by
 refine spec_Q Tryd.func44 rfl fun hs => ?_
 unfold rget10_M at hm
 have hv0 := hv
 obtain ⟨x, rfl, hok, hb, hi, ho, hcap⟩ := hv
 have hroom := hok.many
 have hroom2 := hok.size
 refine W.sr fun K1 hK1 => ?_
 refine zN [(.bool false), (.int .u64 0), (.int .u64 0)] 73 hs fun b4 w2 hs3 => ?_
 refine zE 1 (hK1 _ _ ?_)
 refine W.sr fun K5 hK5 => ?_
 refine zR 2 ?_
 obtain ⟨r6, h7, hm⟩ := bind_some hm
 refine zC00 hs3 (rthere_walk (i_ := i_) (k_ := 0) (img := img) (l := l) (hv := (refAt_old hs3 hv0)) (hm := h7) B _) fun w8 hs10 => ?_
 refine zE 1 (hK5 _ _ ?_)
 refine W.seq fun K11 hK11 => ?_
 refine W.sr fun K12 hK12 => ?_
 refine zE 2 (hK12 _ _ ?_)
 refine W.cond (!decide (r6 = 0)) (by kernel_rfl) (fun h13 => ?_) (fun h13 => ?_)
 rotate_left
 ·
  have h13p : r6 = 0 := of_decide_eq_true (bnot_false h13)
  replace hm := ite_yes hm h13p
  refine W.skip ?_
  refine hK11 _ _ ?_
  refine W.sr fun K14 hK14 => ?_
  refine zR 1 ?_
  refine zC00 hs10 (rsess_spec (i_ := i_) B _) fun w15 hs17 => ?_
  refine zE 1 (hK14 _ _ ?_)
  refine W.seq fun K18 hK18 => ?_
  refine W.sr fun K19 hK19 => ?_
  refine zR 2 ?_
  refine zC00 hs17 (rget_spec (at_ := (sessAt i_)) (hv := (refAt_old hs17 hv0)) B _) fun w20 hs22 => ?_
  refine zE 1 (hK19 _ _ ?_)
  refine W.cond (decide ((vget img l (sessAt i_)) > 1)) (by kernel_rfl) (fun h23 => ?_) (fun h23 => ?_)
  ·
   obtain ⟨h23p, hm⟩ := iY hm h23
   refine W.sr fun K24 hK24 => ?_
   refine zR 1 ?_
   refine ops_store (off := 0) (cs := [(.bool false), (.int .u64 0), (.int .u64 0)]) (vs := [(.bool false), (.int .u64 0), (.int .u64 0)]) hs22 (by kernel_rfl) (by simp) rfl (fun w25 hs26 => ?_)
   have hs27 : St B w [] w25 [blk b4 (.cells [(.bool false), (.int .u64 0), (.int .u64 0)].toArray 73 (0, 0))] := hs26
   refine zE 1 (hK24 _ _ ?_)
   refine W.ret (ret_seq ?_)
   obtain rfl := some_inj hm
   have hs28 := St.tk0 hs27
   refine ret_of (.tuple #[(.agg #[(.bool false), (.int .u64 0), (.int .u64 0)]), (.int .i64 4)]) (resS_of (by kernel_rfl) (resD_two rfl (.agg (ad := ⟨b4, 0, none⟩) (cs := [(.bool false), (.int .u64 0), (.int .u64 0)]) (by kernel_rfl) (by kernel_rfl) (cells_sub (hs27.heapAt 0 rfl) rfl)) (.tmp (by kernel_rfl)))) ⟨_, ⟨rfl, rfl⟩, hs28⟩
  ·
   obtain ⟨h23p, hm⟩ := iN hm h23
   refine W.skip ?_
   refine hK18 _ _ ?_
   refine W.sr fun K29 hK29 => ?_
   refine zR 2 ?_
   refine zC00 hs22 (rget_spec (at_ := (sessAt i_)) (hv := (refAt_old hs22 hv0)) B _) fun w30 hs32 => ?_
   refine zR 3 ?_
   obtain ⟨h33, hm⟩ := need_some hm
   refine zI _ (wrap_i64 h33.1 h33.2) ?_
   refine zC00 hs32 (rget_spec (at_ := ((sessAt i_) + 1)) (hv := (refAt_old hs32 hv0)) B _) fun w34 hs36 => ?_
   refine zR 2 ?_
   obtain ⟨h37, hm⟩ := need_some hm
   refine zI _ (wrap_i64 h37.1 h37.2) ?_
   refine zC00 hs36 (rget_spec (at_ := ((sessAt i_) + 2)) (hv := (refAt_old hs36 hv0)) B _) fun w38 hs40 => ?_
   refine zR 1 ?_
   refine ops_store (off := 0) (cs := [(.bool false), (.int .u64 0), (.int .u64 0)]) (vs := [(.bool (decide ((vget img l (sessAt i_)) = 1))), (.int .u64 (vget img l ((sessAt i_) + 1))), (.int .u64 (vget img l ((sessAt i_) + 2)))]) hs40 (by kernel_rfl) (by simp) rfl (fun w41 hs42 => ?_)
   have hs43 : St B w [] w41 [blk b4 (.cells [(.bool (decide ((vget img l (sessAt i_)) = 1))), (.int .u64 (vget img l ((sessAt i_) + 1))), (.int .u64 (vget img l ((sessAt i_) + 2)))].toArray 73 (0, 0))] := hs42
   refine zE 1 (hK29 _ _ ?_)
   refine W.ret ?_
   obtain rfl := some_inj hm
   have hs44 := St.tk0 hs43
   refine ret_of (.tuple #[(.agg #[(.bool (decide ((vget img l (sessAt i_)) = 1))), (.int .u64 (vget img l ((sessAt i_) + 1))), (.int .u64 (vget img l ((sessAt i_) + 2)))]), (.int .i64 0)]) (resS_of (by kernel_rfl) (resD_two rfl (.agg (ad := ⟨b4, 0, none⟩) (cs := [(.bool (decide ((vget img l (sessAt i_)) = 1))), (.int .u64 (vget img l ((sessAt i_) + 1))), (.int .u64 (vget img l ((sessAt i_) + 2)))]) (by kernel_rfl) (by kernel_rfl) (cells_sub (hs43.heapAt 0 rfl) rfl)) (.tmp (by kernel_rfl)))) ⟨_, ⟨rfl, rfl⟩, hs44⟩
 ·
  have h13p : ¬ (r6 = 0) := of_decide_eq_false (bnot_true h13)
  replace hm := ite_no hm h13p
  refine W.sr fun K45 hK45 => ?_
  refine zR 2 ?_
  refine ops_store (off := 0) (cs := [(.bool false), (.int .u64 0), (.int .u64 0)]) (vs := [(.bool false), (.int .u64 0), (.int .u64 0)]) hs10 (by kernel_rfl) (by simp) rfl (fun w46 hs47 => ?_)
  have hs48 : St B w [] w46 [blk b4 (.cells [(.bool false), (.int .u64 0), (.int .u64 0)].toArray 73 (0, 0))] := hs47
  refine zE 1 (hK45 _ _ ?_)
  refine W.ret (ret_seq ?_)
  obtain rfl := some_inj hm
  have hs49 := St.tk0 hs48
  refine ret_of (.tuple #[(.agg #[(.bool false), (.int .u64 0), (.int .u64 0)]), (.int .i64 r6)]) (resS_of (by kernel_rfl) (resD_two rfl (.agg (ad := ⟨b4, 0, none⟩) (cs := [(.bool false), (.int .u64 0), (.int .u64 0)]) (by kernel_rfl) (by kernel_rfl) (cells_sub (hs48.heapAt 0 rfl) rfl)) (.tmp (by kernel_rfl)))) ⟨_, ⟨rfl, rfl⟩, hs49⟩

def rput10_J1 (img : List Int) (l : List (Int × Int)) (i_ : Int) (hg_ : Int) (hk_ : Int) (p15 : Int) : Option (Int × List (Int × Int)) :=
 need (-1 ≤ (sessAt i_) ∧ (sessAt i_) ≤ 1000000) <|
(some (vwrites img (sessAt i_) l 0 ([p15, hg_, hk_]))).bind fun r34 =>
some (r34.1, r34.2)

def rput10_M (img : List Int) (l : List (Int × Int)) (i_ : Int) (ho_ : Bool) (hg_ : Int) (hk_ : Int) : Option (Int × List (Int × Int)) :=
 (rthere_M img i_ 0).bind fun r6 =>
if r6 = 0 then (if ho_ = true then (rput10_J1 img l i_ hg_ hk_ 1) else (rput10_J1 img l i_ hg_ hk_ 0)) else (some (r6, l))

theorem rput10_walk {img : List Int} {l : List (Int × Int)} {i_ : Int} {ho_ : Bool} {hg_ : Int} {hk_ : Int} {vb : Nat} {r : Int × List (Int × Int)} (B : Nat) (w : World) (hm : rput10_M img l i_ ho_ hg_ hk_ = some r) : Spec Tryd.prog 45 #[(.pointer (some ⟨vb, 0, none⟩)), (.int .i64 i_), (.agg #[(.bool ho_), (.int .u64 hg_), (.int .u64 hk_)])] B w [refA (ptr vb) img l] (fun v H' => v = (.int .i64 r.1) ∧ H' = [refA (ptr vb) img r.2]) := by
 refine spec_W Tryd.func45 rfl fun l0 hs => ?_
 unfold rput10_M at hm
 refine W.sr fun K1 hK1 => ?_
 refine zN [(.bool ho_), (.int .u64 hg_), (.int .u64 hk_)] 73 hs fun b4 w2 hs3 => ?_
 refine zE 1 (hK1 _ _ ?_)
 refine W.sr fun K5 hK5 => ?_
 refine zR 2 ?_
 obtain ⟨r6, h7, hm⟩ := bind_some hm
 refine zC00 hs3 (rthere_walk (i_ := i_) (k_ := 0) (img := img) (l := l) (hv := (hs3.entAt 1 rfl refA_at)) (hm := h7) B _) fun w8 hs10 => ?_
 refine zE 1 (hK5 _ _ ?_)
 refine W.seq fun K11 hK11 => ?_
 refine W.sr fun K12 hK12 => ?_
 refine zE 2 (hK12 _ _ ?_)
 refine W.cond (!decide (r6 = 0)) (by kernel_rfl) (fun h13 => ?_) (fun h13 => ?_)
 rotate_left
 ·
  have h13p : r6 = 0 := of_decide_eq_true (bnot_false h13)
  replace hm := ite_yes hm h13p
  refine W.skip ?_
  refine hK11 _ _ ?_
  refine W.sr fun K14 hK14 => ?_
  refine zE 1 (hK14 _ _ ?_)
  refine W.seq_join (fun s_ w_ => ∃ (p15 : Int), (∃ us, s_ = slots 27 [(0, (.pointer (some ⟨vb, 0, none⟩))), (1, (.int .i64 i_)), (5, (.pointer (some ⟨b4, 0, none⟩))), (8, (.int .u64 p15))] us) ∧ St B w l0 w_ [refA (ptr vb) img l, blk b4 (.cells [(.bool ho_), (.int .u64 hg_), (.int .u64 hk_)].toArray 73 (0, 0))] ∧ rput10_J1 img l i_ hg_ hk_ p15 = some r) ?_ ?_
  ·
   rintro _ w16 ⟨p15, ⟨us, rfl⟩, hs17, hm⟩
   unfold rput10_J1 at hm
   refine W.seq fun K18 hK18 => ?_
   have hs19 := hs17.drew
   have hs20 := St.f1 hs19
   have hs21 := St.tk1 hs20
   refine W.regionD [(0, 0), (0, 0), (2, 2), (0, 0), (0, 0), (16, 16), (0, 0), (64, 64), (168, 168), (261, 261), (1023, 512)] (fun w_ => St B w l0 w_ [blk b4 (.cells [(.bool ho_), (.int .u64 hg_), (.int .u64 hk_)].toArray 73 (0, 0))]) (by kernel_rfl) hs21 ?_
   refine any_val (v := (.pointer (some ⟨vb, 0, none⟩))) (v' := (.pointer (some ⟨vb, 0, none⟩))) 0 (by kernel_rfl) (fun _ => by kernel_rfl) rfl hs21 ?_
   refine any_val (v := (.int .i64 i_)) (v' := (.int .i64 i_)) 1 (by kernel_rfl) (fun _ => by kernel_rfl) rfl hs21 ?_
   refine any_val (v := (.int .u64 p15)) (v' := (.int .u64 p15)) 3 (by kernel_rfl) (fun _ => by kernel_rfl) rfl hs21 ?_
   refine any_val (v := (.pointer (some ⟨b4, 1, none⟩))) (v' := (.pointer (some ⟨b4, 1, none⟩))) 4 (by kernel_rfl) (fun _ => by kernel_rfl) rfl hs21 ?_
   refine any_R 5 (by kernel_rfl) (fun _ hS_ => runs_load (ad := ⟨b4, 1, none⟩) (v := (.int .u64 hg_)) (by kernel_rfl) (hS_.cellAt 0 rfl rfl)) hs21 ?_
   refine any_val (v := (.pointer (some ⟨b4, 2, none⟩))) (v' := (.pointer (some ⟨b4, 2, none⟩))) 6 (by kernel_rfl) (fun _ => by kernel_rfl) rfl hs21 ?_
   refine any_R 7 (by kernel_rfl) (fun _ hS_ => runs_load (ad := ⟨b4, 2, none⟩) (v := (.int .u64 hk_)) (by kernel_rfl) (hS_.cellAt 0 rfl rfl)) hs21 ?_
   refine any_step2 2 8 (by kernel_rfl) (by kernel_rfl) (by kernel_rfl) ?_ ?_
   ·
    refine zC00 hs19 (rsess_spec (i_ := i_) B _) fun w22 hs24 => ?_
    have hs25 := St.f1 hs24
    have hs26 := St.tk1 hs25
    refine ops_done (by kernel_rfl) ⟨hs26, ?_⟩
    refine any_step 8 (by kernel_rfl) (by kernel_rfl) ?_
    refine ops_new (fun b => .slice (some ⟨b, 0, none⟩) 3 3) (.cells [(.int .u64 p15), (.int .u64 hg_), (.int .u64 hk_)].toArray 38 (0, 0)) hs24 (by kernel_rfl) (fun b29 w27 hs28 => ?_)
    have hs30 := St.f2 hs28
    have hs31 := St.tk1 hs30
    refine ops_done (by kernel_rfl) ⟨hs31, ?_⟩
    refine any_step 9 (by kernel_rfl) (by kernel_rfl) ?_
    have hs32 : St B w l0 w27 [kU64.row (some ⟨b29, 0, none⟩) 3 ([p15, hg_, hk_]), refA (ptr vb) img l, blk b4 (.cells [(.bool ho_), (.int .u64 hg_), (.int .u64 hk_)].toArray 73 (0, 0))] := St.kblk kU64 [p15, hg_, hk_] hs28 rfl rfl (by simp only [List.length_cons, List.length_nil]; decide)
    obtain ⟨h33, hm⟩ := need_some hm
    obtain ⟨r34, h35, hm⟩ := bind_some hm
    replace h35 := some_inj h35
    have hs38 := St.f1 hs32
    refine ops_call2 hs38 (by kernel_rfl) (rall_spec (b := vb) (img := img) (l := l) (at_ := (sessAt i_)) (la := (some ⟨b29, 0, none⟩)) (lc := 3) (ws := [p15, hg_, hk_]) (n := 3) (hn := rfl) (hsz := (by simp only [List.length_cons, List.length_nil]; omega)) (hat := h33) B _) ?_
    rintro _ _ w39 ⟨hv36, hH37⟩ hs40
    rw [h35] at hv36
    try rw [h35] at hH37
    subst hv36 hH37
    have hs41 := St.ap1 hs40
    have hs42 := St.f1 hs41
    have hs43 := St.tk1 hs42
    refine ops_done (by kernel_rfl) ⟨hs43, ?_⟩
    refine any_val (v := (.int .i64 r34.1)) (v' := (.int .i64 r34.1)) 10 (by kernel_rfl) (fun _ => by kernel_rfl) rfl hs43 ?_
    refine any_done (by kernel_rfl) ?_
    refine hK18 _ _ ?_
    refine W.ret ?_
    obtain rfl := some_inj hm
    have hs44 := St.tk1 hs41
    refine ret_of (.int .i64 r34.1) (by kernel_rfl) ⟨_, ⟨rfl, rfl⟩, hs44⟩
   ·
    refine ops_new (fun b => .slice (some ⟨b, 0, none⟩) 3 3) (.cells [(.int .u64 p15), (.int .u64 hg_), (.int .u64 hk_)].toArray 38 (0, 0)) hs19 (by kernel_rfl) (fun b47 w45 hs46 => ?_)
    have hs48 := St.f2 hs46
    have hs49 := St.tk1 hs48
    refine ops_done (by kernel_rfl) ⟨hs49, ?_⟩
    refine any_step 2 (by kernel_rfl) (by kernel_rfl) ?_
    refine zC00 hs46 (rsess_spec (i_ := i_) B _) fun w50 hs52 => ?_
    have hs53 := St.f2 hs52
    have hs54 := St.tk1 hs53
    refine ops_done (by kernel_rfl) ⟨hs54, ?_⟩
    refine any_step 9 (by kernel_rfl) (by kernel_rfl) ?_
    have hs55 : St B w l0 w50 [kU64.row (some ⟨b47, 0, none⟩) 3 ([p15, hg_, hk_]), refA (ptr vb) img l, blk b4 (.cells [(.bool ho_), (.int .u64 hg_), (.int .u64 hk_)].toArray 73 (0, 0))] := St.kblk kU64 [p15, hg_, hk_] hs52 rfl rfl (by simp only [List.length_cons, List.length_nil]; decide)
    obtain ⟨h56, hm⟩ := need_some hm
    obtain ⟨r57, h58, hm⟩ := bind_some hm
    replace h58 := some_inj h58
    have hs61 := St.f1 hs55
    refine ops_call2 hs61 (by kernel_rfl) (rall_spec (b := vb) (img := img) (l := l) (at_ := (sessAt i_)) (la := (some ⟨b47, 0, none⟩)) (lc := 3) (ws := [p15, hg_, hk_]) (n := 3) (hn := rfl) (hsz := (by simp only [List.length_cons, List.length_nil]; omega)) (hat := h56) B _) ?_
    rintro _ _ w62 ⟨hv59, hH60⟩ hs63
    rw [h58] at hv59
    try rw [h58] at hH60
    subst hv59 hH60
    have hs64 := St.ap1 hs63
    have hs65 := St.f1 hs64
    have hs66 := St.tk1 hs65
    refine ops_done (by kernel_rfl) ⟨hs66, ?_⟩
    refine any_val (v := (.int .i64 r57.1)) (v' := (.int .i64 r57.1)) 10 (by kernel_rfl) (fun _ => by kernel_rfl) rfl hs66 ?_
    refine any_done (by kernel_rfl) ?_
    refine hK18 _ _ ?_
    refine W.ret ?_
    obtain rfl := some_inj hm
    have hs67 := St.tk1 hs64
    refine ret_of (.int .i64 r57.1) (by kernel_rfl) ⟨_, ⟨rfl, rfl⟩, hs67⟩
  ·
   refine W.sr fun K68 hK68 => ?_
   refine zR 1 ?_
   refine zL ⟨b4, 0, none⟩ (.bool ho_) (hs10.cellAt 0 rfl rfl) ?_
   refine zD (hK68 _ _ ?_)
   refine W.cond ho_ (by kernel_rfl) (fun h69 => ?_) (fun h69 => ?_)
   ·
    have h69p : ho_ = true := h69
    replace hm := ite_yes hm h69p
    refine W.region ?_
    refine zE 1 ?_
    have hs70 := St.f1 hs10
    exact ⟨1, slots_intro _ (by kernel_rfl), hs70, hm⟩
   ·
    have h69p : ¬ (ho_ = true) := ne_true_of_eq_false h69
    replace hm := ite_no hm h69p
    refine W.skip ?_
    have hs71 := St.f1 hs10
    exact ⟨0, slots_intro _ (by kernel_rfl), hs71, hm⟩
 ·
  have h13p : ¬ (r6 = 0) := of_decide_eq_false (bnot_true h13)
  replace hm := ite_no hm h13p
  refine W.sr fun K72 hK72 => ?_
  refine zE 2 (hK72 _ _ ?_)
  refine W.ret (ret_seq ?_)
  obtain rfl := some_inj hm
  have hs73 := St.f1 hs10
  have hs74 := St.tk1 hs73
  refine ret_of (.int .i64 r6) (by kernel_rfl) ⟨_, ⟨rfl, rfl⟩, hs74⟩

def rload_J1 (img : List Int) (l : List (Int × Int)) (i_ : Int) (k_ : Int) (r34 : Int) (p37 : Bool) : Option (Int × Int × Int × Int × ByteArray × Int) :=
 if p37 = true then (some (0, 0, 0, 0, ByteArray.empty, 4)) else (need (-9223372036854775808 ≤ ((slotAt i_ k_) + 4) ∧ ((slotAt i_ k_) + 4) ≤ 9223372036854775807) <|
need (-9223372036854775808 ≤ (((slotAt i_ k_) + 4) + 0) ∧ (((slotAt i_ k_) + 4) + 0) ≤ 9223372036854775807) <|
need (-9223372036854775808 ≤ ((slotAt i_ k_) + 4) ∧ ((slotAt i_ k_) + 4) ≤ 9223372036854775807) <|
need (-9223372036854775808 ≤ (((slotAt i_ k_) + 4) + 1) ∧ (((slotAt i_ k_) + 4) + 1) ≤ 9223372036854775807) <|
need (-9223372036854775808 ≤ ((slotAt i_ k_) + 4) ∧ ((slotAt i_ k_) + 4) ≤ 9223372036854775807) <|
need (-9223372036854775808 ≤ (((slotAt i_ k_) + 4) + 2) ∧ (((slotAt i_ k_) + 4) + 2) ≤ 9223372036854775807) <|
need (-9223372036854775808 ≤ ((slotAt i_ k_) + 4) ∧ ((slotAt i_ k_) + 4) ≤ 9223372036854775807) <|
need (-9223372036854775808 ≤ (((slotAt i_ k_) + 4) + 3) ∧ (((slotAt i_ k_) + 4) + 3) ≤ 9223372036854775807) <|
need (-9223372036854775808 ≤ ((slotAt i_ k_) + 4) ∧ ((slotAt i_ k_) + 4) ≤ 9223372036854775807) <|
need (-9223372036854775808 ≤ (((slotAt i_ k_) + 4) + 4) ∧ (((slotAt i_ k_) + 4) + 4) ≤ 9223372036854775807) <|
need (-9223372036854775808 ≤ ((slotAt i_ k_) + 4) ∧ ((slotAt i_ k_) + 4) ≤ 9223372036854775807) <|
need (-9223372036854775808 ≤ (((slotAt i_ k_) + 4) + 5) ∧ (((slotAt i_ k_) + 4) + 5) ≤ 9223372036854775807) <|
need (-9223372036854775808 ≤ ((slotAt i_ k_) + 4) ∧ ((slotAt i_ k_) + 4) ≤ 9223372036854775807) <|
need (-9223372036854775808 ≤ (((slotAt i_ k_) + 4) + 6) ∧ (((slotAt i_ k_) + 4) + 6) ≤ 9223372036854775807) <|
need (-9223372036854775808 ≤ ((slotAt i_ k_) + 4) ∧ ((slotAt i_ k_) + 4) ≤ 9223372036854775807) <|
need (-9223372036854775808 ≤ (((slotAt i_ k_) + 4) + 7) ∧ (((slotAt i_ k_) + 4) + 7) ≤ 9223372036854775807) <|
need (0 ≤ (r34.tdiv 256) ∧ (r34.tdiv 256) ≤ 18446744073709551615) <|
need (-9223372036854775808 ≤ (r34.tdiv 256) ∧ (r34.tdiv 256) ≤ 9223372036854775807) <|
(runpack_M ([(vget img l (((slotAt i_ k_) + 4) + 0)), (vget img l (((slotAt i_ k_) + 4) + 1)), (vget img l (((slotAt i_ k_) + 4) + 2)), (vget img l (((slotAt i_ k_) + 4) + 3)), (vget img l (((slotAt i_ k_) + 4) + 4)), (vget img l (((slotAt i_ k_) + 4) + 5)), (vget img l (((slotAt i_ k_) + 4) + 6)), (vget img l (((slotAt i_ k_) + 4) + 7))]) (r34.tdiv 256)).bind fun r190 =>
need (-9223372036854775808 ≤ (r34.tmod 256) ∧ (r34.tmod 256) ≤ 9223372036854775807) <|
need (-9223372036854775808 ≤ ((slotAt i_ k_) + 2) ∧ ((slotAt i_ k_) + 2) ≤ 9223372036854775807) <|
need (-9223372036854775808 ≤ ((slotAt i_ k_) + 3) ∧ ((slotAt i_ k_) + 3) ≤ 9223372036854775807) <|
(some (vget img l (slotAt i_ k_))).bind fun r208 =>
some (r208, r34.tmod 256, (vget img l ((slotAt i_ k_) + 2)), (vget img l ((slotAt i_ k_) + 3)), r190.1, 0))

def rload_M (img : List Int) (l : List (Int × Int)) (i_ : Int) (k_ : Int) : Option (Int × Int × Int × Int × ByteArray × Int) :=
 (rthere_M img i_ k_).bind fun r6 =>
if r6 = 0 then (if (vget img l (slotAt i_ k_)) = 0 then (some (0, 0, 0, 0, ByteArray.empty, 0)) else (need (-9223372036854775808 ≤ ((slotAt i_ k_) + 1) ∧ ((slotAt i_ k_) + 1) ≤ 9223372036854775807) <|
(some (vget img l ((slotAt i_ k_) + 1))).bind fun r34 =>
if r34.tmod 256 > 24 then (rload_J1 img l i_ k_ r34 true) else (need (0 ≤ (r34.tdiv 256) ∧ (r34.tdiv 256) ≤ 18446744073709551615) <|
rload_J1 img l i_ k_ r34 (decide ((r34.tdiv 256) > 64))))) else (some (0, 0, 0, 0, ByteArray.empty, r6))

theorem rload_walk {img : List Int} {l : List (Int × Int)} {i_ : Int} {k_ : Int} {p : Value} {r : Int × Int × Int × Int × ByteArray × Int} (B : Nat) (w : World) (hv : RefAt p img l w) (hm : rload_M img l i_ k_ = some r) : Spec Tryd.prog 46 #[p, (.int .i64 i_), (.int .i64 k_)] B w [] (fun v H' => v = (.tuple #[(.int .u64 r.1), (.agg #[(.int .i64 r.2.1), (.int .u64 r.2.2.1), (.int .u64 r.2.2.2.1), (.string r.2.2.2.2.1)]), (.int .i64 r.2.2.2.2.2)]) ∧ H' = []) := by
 refine spec_Q Tryd.func46 rfl fun hs => ?_
 unfold rload_M at hm
 have hv0 := hv
 obtain ⟨x, rfl, hok, hb, hi, ho, hcap⟩ := hv
 have hroom := hok.many
 have hroom2 := hok.size
 refine W.sr fun K1 hK1 => ?_
 refine zR 1 ?_
 refine zN [(.int .i64 0), (.int .u64 0), (.int .u64 0), (.string ByteArray.empty)] 46 hs fun b4 w2 hs3 => ?_
 refine zE 1 (hK1 _ _ ?_)
 refine W.sr fun K5 hK5 => ?_
 refine zR 3 ?_
 obtain ⟨r6, h7, hm⟩ := bind_some hm
 refine zC00 hs3 (rthere_walk (i_ := i_) (k_ := k_) (img := img) (l := l) (hv := (refAt_old hs3 hv0)) (hm := h7) B _) fun w8 hs10 => ?_
 refine zE 1 (hK5 _ _ ?_)
 refine W.seq fun K11 hK11 => ?_
 refine W.sr fun K12 hK12 => ?_
 refine zE 2 (hK12 _ _ ?_)
 refine W.cond (!decide (r6 = 0)) (by kernel_rfl) (fun h13 => ?_) (fun h13 => ?_)
 rotate_left
 ·
  have h13p : r6 = 0 := of_decide_eq_true (bnot_false h13)
  replace hm := ite_yes hm h13p
  refine W.skip ?_
  refine hK11 _ _ ?_
  refine W.sr fun K14 hK14 => ?_
  refine zR 2 ?_
  refine zC00 hs10 (rslotat_spec (i_ := i_) (k_ := k_) B _) fun w15 hs17 => ?_
  refine zE 1 (hK14 _ _ ?_)
  refine W.seq fun K18 hK18 => ?_
  refine W.sr fun K19 hK19 => ?_
  refine zR 2 ?_
  refine zC00 hs17 (rget_spec (at_ := (slotAt i_ k_)) (hv := (refAt_old hs17 hv0)) B _) fun w20 hs22 => ?_
  refine zE 1 (hK19 _ _ ?_)
  refine W.cond (decide ((vget img l (slotAt i_ k_)) = 0)) (by kernel_rfl) (fun h23 => ?_) (fun h23 => ?_)
  ·
   obtain ⟨h23p, hm⟩ := iY hm h23
   refine W.sr fun K24 hK24 => ?_
   refine zR 2 ?_
   refine ops_store (off := 0) (cs := [(.int .i64 0), (.int .u64 0), (.int .u64 0), (.string ByteArray.empty)]) (vs := [(.int .i64 0), (.int .u64 0), (.int .u64 0), (.string ByteArray.empty)]) hs22 (by kernel_rfl) (by simp) rfl (fun w25 hs26 => ?_)
   have hs27 : St B w [] w25 [blk b4 (.cells [(.int .i64 0), (.int .u64 0), (.int .u64 0), (.string ByteArray.empty)].toArray 46 (0, 0))] := hs26
   refine zE 1 (hK24 _ _ ?_)
   refine W.ret (ret_seq ?_)
   obtain rfl := some_inj hm
   have hs28 := St.tk0 hs27
   refine ret_of (.tuple #[(.int .u64 0), (.agg #[(.int .i64 0), (.int .u64 0), (.int .u64 0), (.string ByteArray.empty)]), (.int .i64 0)]) (resS_of (by kernel_rfl) (resD_three rfl (.tmp (by kernel_rfl)) (.agg (ad := ⟨b4, 0, none⟩) (cs := [(.int .i64 0), (.int .u64 0), (.int .u64 0), (.string ByteArray.empty)]) (by kernel_rfl) (by kernel_rfl) (cells_sub (hs27.heapAt 0 rfl) rfl)) (.tmp (by kernel_rfl)))) ⟨_, ⟨rfl, rfl⟩, hs28⟩
  ·
   obtain ⟨h23p, hm⟩ := iN hm h23
   refine W.skip ?_
   refine hK18 _ _ ?_
   refine W.sr fun K29 hK29 => ?_
   refine zR 2 ?_
   obtain ⟨h30, hm⟩ := need_some hm
   refine zI _ (wrap_i64 h30.1 h30.2) ?_
   refine zC00 hs22 (rget_spec (at_ := ((slotAt i_ k_) + 1)) (hv := (refAt_old hs22 hv0)) B _) fun w31 hs33 => ?_
   refine zR 1 ?_
   obtain ⟨r34, h35, hm⟩ := bind_some hm
   replace h35 := some_inj h35
   refine ops_set 11 (v := .int .u64 r34) (Eq.trans (by kernel_rfl) (congrArg (Value.int .u64) h35)) ?_
   refine zD (hK29 _ _ ?_)
   refine W.seq fun K36 hK36 => ?_
   refine W.seq_join (fun s_ w_ => ∃ (p37 : Bool), (∃ us, s_ = slots 82 [(0, (.pointer (some ⟨x.b, 0, none⟩))), (7, (.pointer (some ⟨b4, 0, none⟩))), (10, (.int .i64 (slotAt i_ k_))), (11, (.int .u64 r34)), (43, (.bool p37))] us) ∧ St B w [] w_ [blk b4 (.cells [(.int .i64 0), (.int .u64 0), (.int .u64 0), (.string ByteArray.empty)].toArray 46 (0, 0))] ∧ rload_J1 img l i_ k_ r34 p37 = some r) ?_ ?_
   ·
    rintro _ w38 ⟨p37, ⟨us, rfl⟩, hs39, hm⟩
    unfold rload_J1 at hm
    refine W.cond p37 (by kernel_rfl) (fun h40 => ?_) (fun h40 => ?_)
    ·
     have h40p : p37 = true := h40
     replace hm := ite_yes hm h40p
     refine W.sr fun K41 hK41 => ?_
     refine zR 2 ?_
     refine ops_store (off := 0) (cs := [(.int .i64 0), (.int .u64 0), (.int .u64 0), (.string ByteArray.empty)]) (vs := [(.int .i64 0), (.int .u64 0), (.int .u64 0), (.string ByteArray.empty)]) hs39 (by kernel_rfl) (by simp) rfl (fun w42 hs43 => ?_)
     have hs44 : St B w [] w42 [blk b4 (.cells [(.int .i64 0), (.int .u64 0), (.int .u64 0), (.string ByteArray.empty)].toArray 46 (0, 0))] := hs43
     refine zE 1 (hK41 _ _ ?_)
     refine W.ret (ret_seq ?_)
     obtain rfl := some_inj hm
     have hs45 := St.tk0 hs44
     refine ret_of (.tuple #[(.int .u64 0), (.agg #[(.int .i64 0), (.int .u64 0), (.int .u64 0), (.string ByteArray.empty)]), (.int .i64 4)]) (resS_of (by kernel_rfl) (resD_three rfl (.tmp (by kernel_rfl)) (.agg (ad := ⟨b4, 0, none⟩) (cs := [(.int .i64 0), (.int .u64 0), (.int .u64 0), (.string ByteArray.empty)]) (by kernel_rfl) (by kernel_rfl) (cells_sub (hs44.heapAt 0 rfl) rfl)) (.tmp (by kernel_rfl)))) ⟨_, ⟨rfl, rfl⟩, hs45⟩
    ·
     have h40p : ¬ (p37 = true) := ne_true_of_eq_false h40
     replace hm := ite_no hm h40p
     refine W.skip ?_
     refine hK36 _ _ ?_
     refine W.sr fun K46 hK46 => ?_
     refine zE 1 (hK46 _ _ ?_)
     refine W.seq fun K47 hK47 => ?_
     refine W.sr fun K48 hK48 => ?_
     refine zE 1 (hK48 _ _ ?_)
     refine W.block ?_
     refine W.loop_start ?_
     refine loopAt_round ?_
     refine W.seq fun K49 hK49 => ?_
     refine W.sr fun K50 hK50 => ?_
     refine zE 2 (hK50 _ _ ?_)
     refine W.cond_true true (by kernel_rfl) rfl ?_
     refine W.skip ?_
     refine hK49 _ _ ?_
     refine W.seq fun K51 hK51 => ?_
     refine W.block ?_
     refine W.region ?_
     refine zR 3 ?_
     obtain ⟨h52, hm⟩ := need_some hm
     refine zI _ (wrap_i64 h52.1 h52.2) ?_
     refine zR 1 ?_
     obtain ⟨h53, hm⟩ := need_some hm
     refine zI _ (wrap_i64 h53.1 h53.2) ?_
     refine zC00 hs39 (rget_spec (at_ := (((slotAt i_ k_) + 4) + 0)) (hv := (refAt_old hs39 hv0)) B _) fun w54 hs56 => ?_
     refine ops_new (fun b => .slice (some ⟨b, 0, none⟩) 1 1) (.cells [(.int .u64 (vget img l (((slotAt i_ k_) + 4) + 0)))].toArray 38 (0, 0)) hs56 (by kernel_rfl) (fun b59 w57 hs58 => ?_)
     have hs60 := St.knil kU64 hs58
     refine ops_appendK kU64 (bytes := 8) (a' := (some ⟨b59, 0, none⟩)) (c' := 1) (l := []) (m := [(vget img l (((slotAt i_ k_) + 4) + 0))]) hs60 (by kernel_rfl) (by simp) (cells_blk (hs60.heapAt 1 rfl)) (by (unfold maxLen; try simp) <;> omega) (by (try simp) <;> omega) (fun a61 c62 w63 hs64 => ?_)
     have hs65 : St B w [] w63 [kU64.row a61 c62 ([(vget img l (((slotAt i_ k_) + 4) + 0))]), blk b59 (.cells [(.int .u64 (vget img l (((slotAt i_ k_) + 4) + 0)))].toArray 38 (0, 0)), blk b4 (.cells [(.int .i64 0), (.int .u64 0), (.int .u64 0), (.string ByteArray.empty)].toArray 46 (0, 0))] := hs64
     refine zE 1 ?_
     refine normal_block ?_
     refine hK51 _ _ ?_
     refine W.region ?_
     refine zE 3 ?_
     refine loopAt_next ?_
     refine loopAt_round ?_
     refine W.seq fun K66 hK66 => ?_
     refine W.sr fun K67 hK67 => ?_
     refine zE 2 (hK67 _ _ ?_)
     refine W.cond_true true (by kernel_rfl) rfl ?_
     refine W.skip ?_
     refine hK66 _ _ ?_
     refine W.seq fun K68 hK68 => ?_
     refine W.block ?_
     refine W.region ?_
     refine zR 3 ?_
     obtain ⟨h69, hm⟩ := need_some hm
     refine zI _ (wrap_i64 h69.1 h69.2) ?_
     refine zR 1 ?_
     obtain ⟨h70, hm⟩ := need_some hm
     refine zI _ (wrap_i64 h70.1 h70.2) ?_
     refine zC00 hs65 (rget_spec (at_ := (((slotAt i_ k_) + 4) + 1)) (hv := (refAt_old hs65 hv0)) B _) fun w71 hs73 => ?_
     refine ops_new (fun b => .slice (some ⟨b, 0, none⟩) 1 1) (.cells [(.int .u64 (vget img l (((slotAt i_ k_) + 4) + 1)))].toArray 38 (0, 0)) hs73 (by kernel_rfl) (fun b76 w74 hs75 => ?_)
     have hs77 := St.f1 hs75
     refine ops_appendK kU64 (bytes := 8) (a' := (some ⟨b76, 0, none⟩)) (c' := 1) (l := [(vget img l (((slotAt i_ k_) + 4) + 0))]) (m := [(vget img l (((slotAt i_ k_) + 4) + 1))]) hs77 (by kernel_rfl) (by simp) (cells_blk (hs77.heapAt 1 rfl)) (by unfold maxLen; (try simp only [List.length_cons, List.length_nil]); omega) (by (try simp only [List.length_cons, List.length_nil]); omega) (fun a78 c79 w80 hs81 => ?_)
     have hs82 : St B w [] w80 [kU64.row a78 c79 ([(vget img l (((slotAt i_ k_) + 4) + 0)), (vget img l (((slotAt i_ k_) + 4) + 1))]), blk b76 (.cells [(.int .u64 (vget img l (((slotAt i_ k_) + 4) + 1)))].toArray 38 (0, 0)), blk b59 (.cells [(.int .u64 (vget img l (((slotAt i_ k_) + 4) + 0)))].toArray 38 (0, 0)), blk b4 (.cells [(.int .i64 0), (.int .u64 0), (.int .u64 0), (.string ByteArray.empty)].toArray 46 (0, 0))] := hs81
     refine zE 1 ?_
     refine normal_block ?_
     refine hK68 _ _ ?_
     refine W.region ?_
     refine zE 3 ?_
     refine loopAt_next ?_
     refine loopAt_round ?_
     refine W.seq fun K83 hK83 => ?_
     refine W.sr fun K84 hK84 => ?_
     refine zE 2 (hK84 _ _ ?_)
     refine W.cond_true true (by kernel_rfl) rfl ?_
     refine W.skip ?_
     refine hK83 _ _ ?_
     refine W.seq fun K85 hK85 => ?_
     refine W.block ?_
     refine W.region ?_
     refine zR 3 ?_
     obtain ⟨h86, hm⟩ := need_some hm
     refine zI _ (wrap_i64 h86.1 h86.2) ?_
     refine zR 1 ?_
     obtain ⟨h87, hm⟩ := need_some hm
     refine zI _ (wrap_i64 h87.1 h87.2) ?_
     refine zC00 hs82 (rget_spec (at_ := (((slotAt i_ k_) + 4) + 2)) (hv := (refAt_old hs82 hv0)) B _) fun w88 hs90 => ?_
     refine ops_new (fun b => .slice (some ⟨b, 0, none⟩) 1 1) (.cells [(.int .u64 (vget img l (((slotAt i_ k_) + 4) + 2)))].toArray 38 (0, 0)) hs90 (by kernel_rfl) (fun b93 w91 hs92 => ?_)
     have hs94 := St.f1 hs92
     refine ops_appendK kU64 (bytes := 8) (a' := (some ⟨b93, 0, none⟩)) (c' := 1) (l := [(vget img l (((slotAt i_ k_) + 4) + 0)), (vget img l (((slotAt i_ k_) + 4) + 1))]) (m := [(vget img l (((slotAt i_ k_) + 4) + 2))]) hs94 (by kernel_rfl) (by simp) (cells_blk (hs94.heapAt 1 rfl)) (by unfold maxLen; (try simp only [List.length_cons, List.length_nil]); omega) (by (try simp only [List.length_cons, List.length_nil]); omega) (fun a95 c96 w97 hs98 => ?_)
     have hs99 : St B w [] w97 [kU64.row a95 c96 ([(vget img l (((slotAt i_ k_) + 4) + 0)), (vget img l (((slotAt i_ k_) + 4) + 1)), (vget img l (((slotAt i_ k_) + 4) + 2))]), blk b93 (.cells [(.int .u64 (vget img l (((slotAt i_ k_) + 4) + 2)))].toArray 38 (0, 0)), blk b76 (.cells [(.int .u64 (vget img l (((slotAt i_ k_) + 4) + 1)))].toArray 38 (0, 0)), blk b59 (.cells [(.int .u64 (vget img l (((slotAt i_ k_) + 4) + 0)))].toArray 38 (0, 0)), blk b4 (.cells [(.int .i64 0), (.int .u64 0), (.int .u64 0), (.string ByteArray.empty)].toArray 46 (0, 0))] := hs98
     refine zE 1 ?_
     refine normal_block ?_
     refine hK85 _ _ ?_
     refine W.region ?_
     refine zE 3 ?_
     refine loopAt_next ?_
     refine loopAt_round ?_
     refine W.seq fun K100 hK100 => ?_
     refine W.sr fun K101 hK101 => ?_
     refine zE 2 (hK101 _ _ ?_)
     refine W.cond_true true (by kernel_rfl) rfl ?_
     refine W.skip ?_
     refine hK100 _ _ ?_
     refine W.seq fun K102 hK102 => ?_
     refine W.block ?_
     refine W.region ?_
     refine zR 3 ?_
     obtain ⟨h103, hm⟩ := need_some hm
     refine zI _ (wrap_i64 h103.1 h103.2) ?_
     refine zR 1 ?_
     obtain ⟨h104, hm⟩ := need_some hm
     refine zI _ (wrap_i64 h104.1 h104.2) ?_
     refine zC00 hs99 (rget_spec (at_ := (((slotAt i_ k_) + 4) + 3)) (hv := (refAt_old hs99 hv0)) B _) fun w105 hs107 => ?_
     refine ops_new (fun b => .slice (some ⟨b, 0, none⟩) 1 1) (.cells [(.int .u64 (vget img l (((slotAt i_ k_) + 4) + 3)))].toArray 38 (0, 0)) hs107 (by kernel_rfl) (fun b110 w108 hs109 => ?_)
     have hs111 := St.f1 hs109
     refine ops_appendK kU64 (bytes := 8) (a' := (some ⟨b110, 0, none⟩)) (c' := 1) (l := [(vget img l (((slotAt i_ k_) + 4) + 0)), (vget img l (((slotAt i_ k_) + 4) + 1)), (vget img l (((slotAt i_ k_) + 4) + 2))]) (m := [(vget img l (((slotAt i_ k_) + 4) + 3))]) hs111 (by kernel_rfl) (by simp) (cells_blk (hs111.heapAt 1 rfl)) (by unfold maxLen; (try simp only [List.length_cons, List.length_nil]); omega) (by (try simp only [List.length_cons, List.length_nil]); omega) (fun a112 c113 w114 hs115 => ?_)
     have hs116 : St B w [] w114 [kU64.row a112 c113 ([(vget img l (((slotAt i_ k_) + 4) + 0)), (vget img l (((slotAt i_ k_) + 4) + 1)), (vget img l (((slotAt i_ k_) + 4) + 2)), (vget img l (((slotAt i_ k_) + 4) + 3))]), blk b110 (.cells [(.int .u64 (vget img l (((slotAt i_ k_) + 4) + 3)))].toArray 38 (0, 0)), blk b93 (.cells [(.int .u64 (vget img l (((slotAt i_ k_) + 4) + 2)))].toArray 38 (0, 0)), blk b76 (.cells [(.int .u64 (vget img l (((slotAt i_ k_) + 4) + 1)))].toArray 38 (0, 0)), blk b59 (.cells [(.int .u64 (vget img l (((slotAt i_ k_) + 4) + 0)))].toArray 38 (0, 0)), blk b4 (.cells [(.int .i64 0), (.int .u64 0), (.int .u64 0), (.string ByteArray.empty)].toArray 46 (0, 0))] := hs115
     refine zE 1 ?_
     refine normal_block ?_
     refine hK102 _ _ ?_
     refine W.region ?_
     refine zE 3 ?_
     refine loopAt_next ?_
     refine loopAt_round ?_
     refine W.seq fun K117 hK117 => ?_
     refine W.sr fun K118 hK118 => ?_
     refine zE 2 (hK118 _ _ ?_)
     refine W.cond_true true (by kernel_rfl) rfl ?_
     refine W.skip ?_
     refine hK117 _ _ ?_
     refine W.seq fun K119 hK119 => ?_
     refine W.block ?_
     refine W.region ?_
     refine zR 3 ?_
     obtain ⟨h120, hm⟩ := need_some hm
     refine zI _ (wrap_i64 h120.1 h120.2) ?_
     refine zR 1 ?_
     obtain ⟨h121, hm⟩ := need_some hm
     refine zI _ (wrap_i64 h121.1 h121.2) ?_
     refine zC00 hs116 (rget_spec (at_ := (((slotAt i_ k_) + 4) + 4)) (hv := (refAt_old hs116 hv0)) B _) fun w122 hs124 => ?_
     refine ops_new (fun b => .slice (some ⟨b, 0, none⟩) 1 1) (.cells [(.int .u64 (vget img l (((slotAt i_ k_) + 4) + 4)))].toArray 38 (0, 0)) hs124 (by kernel_rfl) (fun b127 w125 hs126 => ?_)
     have hs128 := St.f1 hs126
     refine ops_appendK kU64 (bytes := 8) (a' := (some ⟨b127, 0, none⟩)) (c' := 1) (l := [(vget img l (((slotAt i_ k_) + 4) + 0)), (vget img l (((slotAt i_ k_) + 4) + 1)), (vget img l (((slotAt i_ k_) + 4) + 2)), (vget img l (((slotAt i_ k_) + 4) + 3))]) (m := [(vget img l (((slotAt i_ k_) + 4) + 4))]) hs128 (by kernel_rfl) (by simp) (cells_blk (hs128.heapAt 1 rfl)) (by unfold maxLen; (try simp only [List.length_cons, List.length_nil]); omega) (by (try simp only [List.length_cons, List.length_nil]); omega) (fun a129 c130 w131 hs132 => ?_)
     have hs133 : St B w [] w131 [kU64.row a129 c130 ([(vget img l (((slotAt i_ k_) + 4) + 0)), (vget img l (((slotAt i_ k_) + 4) + 1)), (vget img l (((slotAt i_ k_) + 4) + 2)), (vget img l (((slotAt i_ k_) + 4) + 3)), (vget img l (((slotAt i_ k_) + 4) + 4))]), blk b127 (.cells [(.int .u64 (vget img l (((slotAt i_ k_) + 4) + 4)))].toArray 38 (0, 0)), blk b110 (.cells [(.int .u64 (vget img l (((slotAt i_ k_) + 4) + 3)))].toArray 38 (0, 0)), blk b93 (.cells [(.int .u64 (vget img l (((slotAt i_ k_) + 4) + 2)))].toArray 38 (0, 0)), blk b76 (.cells [(.int .u64 (vget img l (((slotAt i_ k_) + 4) + 1)))].toArray 38 (0, 0)), blk b59 (.cells [(.int .u64 (vget img l (((slotAt i_ k_) + 4) + 0)))].toArray 38 (0, 0)), blk b4 (.cells [(.int .i64 0), (.int .u64 0), (.int .u64 0), (.string ByteArray.empty)].toArray 46 (0, 0))] := hs132
     refine zE 1 ?_
     refine normal_block ?_
     refine hK119 _ _ ?_
     refine W.region ?_
     refine zE 3 ?_
     refine loopAt_next ?_
     refine loopAt_round ?_
     refine W.seq fun K134 hK134 => ?_
     refine W.sr fun K135 hK135 => ?_
     refine zE 2 (hK135 _ _ ?_)
     refine W.cond_true true (by kernel_rfl) rfl ?_
     refine W.skip ?_
     refine hK134 _ _ ?_
     refine W.seq fun K136 hK136 => ?_
     refine W.block ?_
     refine W.region ?_
     refine zR 3 ?_
     obtain ⟨h137, hm⟩ := need_some hm
     refine zI _ (wrap_i64 h137.1 h137.2) ?_
     refine zR 1 ?_
     obtain ⟨h138, hm⟩ := need_some hm
     refine zI _ (wrap_i64 h138.1 h138.2) ?_
     refine zC00 hs133 (rget_spec (at_ := (((slotAt i_ k_) + 4) + 5)) (hv := (refAt_old hs133 hv0)) B _) fun w139 hs141 => ?_
     refine ops_new (fun b => .slice (some ⟨b, 0, none⟩) 1 1) (.cells [(.int .u64 (vget img l (((slotAt i_ k_) + 4) + 5)))].toArray 38 (0, 0)) hs141 (by kernel_rfl) (fun b144 w142 hs143 => ?_)
     have hs145 := St.f1 hs143
     refine ops_appendK kU64 (bytes := 8) (a' := (some ⟨b144, 0, none⟩)) (c' := 1) (l := [(vget img l (((slotAt i_ k_) + 4) + 0)), (vget img l (((slotAt i_ k_) + 4) + 1)), (vget img l (((slotAt i_ k_) + 4) + 2)), (vget img l (((slotAt i_ k_) + 4) + 3)), (vget img l (((slotAt i_ k_) + 4) + 4))]) (m := [(vget img l (((slotAt i_ k_) + 4) + 5))]) hs145 (by kernel_rfl) (by simp) (cells_blk (hs145.heapAt 1 rfl)) (by unfold maxLen; (try simp only [List.length_cons, List.length_nil]); omega) (by (try simp only [List.length_cons, List.length_nil]); omega) (fun a146 c147 w148 hs149 => ?_)
     have hs150 : St B w [] w148 [kU64.row a146 c147 ([(vget img l (((slotAt i_ k_) + 4) + 0)), (vget img l (((slotAt i_ k_) + 4) + 1)), (vget img l (((slotAt i_ k_) + 4) + 2)), (vget img l (((slotAt i_ k_) + 4) + 3)), (vget img l (((slotAt i_ k_) + 4) + 4)), (vget img l (((slotAt i_ k_) + 4) + 5))]), blk b144 (.cells [(.int .u64 (vget img l (((slotAt i_ k_) + 4) + 5)))].toArray 38 (0, 0)), blk b127 (.cells [(.int .u64 (vget img l (((slotAt i_ k_) + 4) + 4)))].toArray 38 (0, 0)), blk b110 (.cells [(.int .u64 (vget img l (((slotAt i_ k_) + 4) + 3)))].toArray 38 (0, 0)), blk b93 (.cells [(.int .u64 (vget img l (((slotAt i_ k_) + 4) + 2)))].toArray 38 (0, 0)), blk b76 (.cells [(.int .u64 (vget img l (((slotAt i_ k_) + 4) + 1)))].toArray 38 (0, 0)), blk b59 (.cells [(.int .u64 (vget img l (((slotAt i_ k_) + 4) + 0)))].toArray 38 (0, 0)), blk b4 (.cells [(.int .i64 0), (.int .u64 0), (.int .u64 0), (.string ByteArray.empty)].toArray 46 (0, 0))] := hs149
     refine zE 1 ?_
     refine normal_block ?_
     refine hK136 _ _ ?_
     refine W.region ?_
     refine zE 3 ?_
     refine loopAt_next ?_
     refine loopAt_round ?_
     refine W.seq fun K151 hK151 => ?_
     refine W.sr fun K152 hK152 => ?_
     refine zE 2 (hK152 _ _ ?_)
     refine W.cond_true true (by kernel_rfl) rfl ?_
     refine W.skip ?_
     refine hK151 _ _ ?_
     refine W.seq fun K153 hK153 => ?_
     refine W.block ?_
     refine W.region ?_
     refine zR 3 ?_
     obtain ⟨h154, hm⟩ := need_some hm
     refine zI _ (wrap_i64 h154.1 h154.2) ?_
     refine zR 1 ?_
     obtain ⟨h155, hm⟩ := need_some hm
     refine zI _ (wrap_i64 h155.1 h155.2) ?_
     refine zC00 hs150 (rget_spec (at_ := (((slotAt i_ k_) + 4) + 6)) (hv := (refAt_old hs150 hv0)) B _) fun w156 hs158 => ?_
     refine ops_new (fun b => .slice (some ⟨b, 0, none⟩) 1 1) (.cells [(.int .u64 (vget img l (((slotAt i_ k_) + 4) + 6)))].toArray 38 (0, 0)) hs158 (by kernel_rfl) (fun b161 w159 hs160 => ?_)
     have hs162 := St.f1 hs160
     refine ops_appendK kU64 (bytes := 8) (a' := (some ⟨b161, 0, none⟩)) (c' := 1) (l := [(vget img l (((slotAt i_ k_) + 4) + 0)), (vget img l (((slotAt i_ k_) + 4) + 1)), (vget img l (((slotAt i_ k_) + 4) + 2)), (vget img l (((slotAt i_ k_) + 4) + 3)), (vget img l (((slotAt i_ k_) + 4) + 4)), (vget img l (((slotAt i_ k_) + 4) + 5))]) (m := [(vget img l (((slotAt i_ k_) + 4) + 6))]) hs162 (by kernel_rfl) (by simp) (cells_blk (hs162.heapAt 1 rfl)) (by unfold maxLen; (try simp only [List.length_cons, List.length_nil]); omega) (by (try simp only [List.length_cons, List.length_nil]); omega) (fun a163 c164 w165 hs166 => ?_)
     have hs167 : St B w [] w165 [kU64.row a163 c164 ([(vget img l (((slotAt i_ k_) + 4) + 0)), (vget img l (((slotAt i_ k_) + 4) + 1)), (vget img l (((slotAt i_ k_) + 4) + 2)), (vget img l (((slotAt i_ k_) + 4) + 3)), (vget img l (((slotAt i_ k_) + 4) + 4)), (vget img l (((slotAt i_ k_) + 4) + 5)), (vget img l (((slotAt i_ k_) + 4) + 6))]), blk b161 (.cells [(.int .u64 (vget img l (((slotAt i_ k_) + 4) + 6)))].toArray 38 (0, 0)), blk b144 (.cells [(.int .u64 (vget img l (((slotAt i_ k_) + 4) + 5)))].toArray 38 (0, 0)), blk b127 (.cells [(.int .u64 (vget img l (((slotAt i_ k_) + 4) + 4)))].toArray 38 (0, 0)), blk b110 (.cells [(.int .u64 (vget img l (((slotAt i_ k_) + 4) + 3)))].toArray 38 (0, 0)), blk b93 (.cells [(.int .u64 (vget img l (((slotAt i_ k_) + 4) + 2)))].toArray 38 (0, 0)), blk b76 (.cells [(.int .u64 (vget img l (((slotAt i_ k_) + 4) + 1)))].toArray 38 (0, 0)), blk b59 (.cells [(.int .u64 (vget img l (((slotAt i_ k_) + 4) + 0)))].toArray 38 (0, 0)), blk b4 (.cells [(.int .i64 0), (.int .u64 0), (.int .u64 0), (.string ByteArray.empty)].toArray 46 (0, 0))] := hs166
     refine zE 1 ?_
     refine normal_block ?_
     refine hK153 _ _ ?_
     refine W.region ?_
     refine zE 3 ?_
     refine loopAt_next ?_
     refine loopAt_round ?_
     refine W.seq fun K168 hK168 => ?_
     refine W.sr fun K169 hK169 => ?_
     refine zE 2 (hK169 _ _ ?_)
     refine W.cond_true true (by kernel_rfl) rfl ?_
     refine W.skip ?_
     refine hK168 _ _ ?_
     refine W.seq fun K170 hK170 => ?_
     refine W.block ?_
     refine W.region ?_
     refine zR 3 ?_
     obtain ⟨h171, hm⟩ := need_some hm
     refine zI _ (wrap_i64 h171.1 h171.2) ?_
     refine zR 1 ?_
     obtain ⟨h172, hm⟩ := need_some hm
     refine zI _ (wrap_i64 h172.1 h172.2) ?_
     refine zC00 hs167 (rget_spec (at_ := (((slotAt i_ k_) + 4) + 7)) (hv := (refAt_old hs167 hv0)) B _) fun w173 hs175 => ?_
     refine ops_new (fun b => .slice (some ⟨b, 0, none⟩) 1 1) (.cells [(.int .u64 (vget img l (((slotAt i_ k_) + 4) + 7)))].toArray 38 (0, 0)) hs175 (by kernel_rfl) (fun b178 w176 hs177 => ?_)
     have hs179 := St.f1 hs177
     refine ops_appendK kU64 (bytes := 8) (a' := (some ⟨b178, 0, none⟩)) (c' := 1) (l := [(vget img l (((slotAt i_ k_) + 4) + 0)), (vget img l (((slotAt i_ k_) + 4) + 1)), (vget img l (((slotAt i_ k_) + 4) + 2)), (vget img l (((slotAt i_ k_) + 4) + 3)), (vget img l (((slotAt i_ k_) + 4) + 4)), (vget img l (((slotAt i_ k_) + 4) + 5)), (vget img l (((slotAt i_ k_) + 4) + 6))]) (m := [(vget img l (((slotAt i_ k_) + 4) + 7))]) hs179 (by kernel_rfl) (by simp) (cells_blk (hs179.heapAt 1 rfl)) (by unfold maxLen; (try simp only [List.length_cons, List.length_nil]); omega) (by (try simp only [List.length_cons, List.length_nil]); omega) (fun a180 c181 w182 hs183 => ?_)
     have hs184 : St B w [] w182 [kU64.row a180 c181 ([(vget img l (((slotAt i_ k_) + 4) + 0)), (vget img l (((slotAt i_ k_) + 4) + 1)), (vget img l (((slotAt i_ k_) + 4) + 2)), (vget img l (((slotAt i_ k_) + 4) + 3)), (vget img l (((slotAt i_ k_) + 4) + 4)), (vget img l (((slotAt i_ k_) + 4) + 5)), (vget img l (((slotAt i_ k_) + 4) + 6)), (vget img l (((slotAt i_ k_) + 4) + 7))]), blk b178 (.cells [(.int .u64 (vget img l (((slotAt i_ k_) + 4) + 7)))].toArray 38 (0, 0)), blk b161 (.cells [(.int .u64 (vget img l (((slotAt i_ k_) + 4) + 6)))].toArray 38 (0, 0)), blk b144 (.cells [(.int .u64 (vget img l (((slotAt i_ k_) + 4) + 5)))].toArray 38 (0, 0)), blk b127 (.cells [(.int .u64 (vget img l (((slotAt i_ k_) + 4) + 4)))].toArray 38 (0, 0)), blk b110 (.cells [(.int .u64 (vget img l (((slotAt i_ k_) + 4) + 3)))].toArray 38 (0, 0)), blk b93 (.cells [(.int .u64 (vget img l (((slotAt i_ k_) + 4) + 2)))].toArray 38 (0, 0)), blk b76 (.cells [(.int .u64 (vget img l (((slotAt i_ k_) + 4) + 1)))].toArray 38 (0, 0)), blk b59 (.cells [(.int .u64 (vget img l (((slotAt i_ k_) + 4) + 0)))].toArray 38 (0, 0)), blk b4 (.cells [(.int .i64 0), (.int .u64 0), (.int .u64 0), (.string ByteArray.empty)].toArray 46 (0, 0))] := hs183
     refine zE 1 ?_
     refine normal_block ?_
     refine hK170 _ _ ?_
     refine W.region ?_
     refine zE 3 ?_
     refine loopAt_next ?_
     refine loopAt_round ?_
     refine W.seq fun K185 hK185 => ?_
     refine W.sr fun K186 hK186 => ?_
     refine zE 2 (hK186 _ _ ?_)
     refine W.cond_false false (by kernel_rfl) rfl ?_
     refine W.exit (exit_seq (exit_seq (exit_here ?_)))
     refine hK47 _ _ ?_
     refine W.sr fun K187 hK187 => ?_
     refine zR 2 ?_
     obtain ⟨h188, hm⟩ := need_some hm
     refine ops_R (v := .int .u64 (r34.tdiv 256)) (runs_quo (k := .u64) (a := r34) (b := 256) (by kernel_rfl) (by decide) (wrap_u64 h188.1 (Int.lt_of_le_of_lt h188.2 (by decide)))) ?_
     obtain ⟨h189, hm⟩ := need_some hm
     refine zI _ (wrap_i64 h189.1 h189.2) ?_
     obtain ⟨r190, h191, hm⟩ := bind_some hm
     refine zC00 hs184 (runpack_walk (ws := [(vget img l (((slotAt i_ k_) + 4) + 0)), (vget img l (((slotAt i_ k_) + 4) + 1)), (vget img l (((slotAt i_ k_) + 4) + 2)), (vget img l (((slotAt i_ k_) + 4) + 3)), (vget img l (((slotAt i_ k_) + 4) + 4)), (vget img l (((slotAt i_ k_) + 4) + 5)), (vget img l (((slotAt i_ k_) + 4) + 6)), (vget img l (((slotAt i_ k_) + 4) + 7))]) (n_ := (r34.tdiv 256)) (wa := a180) (wc := c181) (hw := (St.kcells kU64 hs184 0 rfl)) (hm := h191) B _) fun w192 hs194 => ?_
     refine zE 5 (hK187 _ _ ?_)
     refine W.sr fun K195 hK195 => ?_
     refine zR 2 ?_
     refine zC00 hs194 (rget_spec (at_ := (slotAt i_ k_)) (hv := (refAt_old hs194 hv0)) B _) fun w196 hs198 => ?_
     refine zR 2 ?_
     obtain ⟨h199, hm⟩ := need_some hm
     refine zI _ (wrap_i64 h199.1 h199.2) ?_
     refine zR 2 ?_
     obtain ⟨h200, hm⟩ := need_some hm
     refine zI _ (wrap_i64 h200.1 h200.2) ?_
     refine zC00 hs198 (rget_spec (at_ := ((slotAt i_ k_) + 2)) (hv := (refAt_old hs198 hv0)) B _) fun w201 hs203 => ?_
     refine zR 2 ?_
     obtain ⟨h204, hm⟩ := need_some hm
     refine zI _ (wrap_i64 h204.1 h204.2) ?_
     refine zC00 hs203 (rget_spec (at_ := ((slotAt i_ k_) + 3)) (hv := (refAt_old hs203 hv0)) B _) fun w205 hs207 => ?_
     refine zR 3 ?_
     obtain ⟨r208, h209, hm⟩ := bind_some hm
     replace h209 := some_inj h209
     refine ops_set 6 (v := .int .u64 r208) (Eq.trans (by kernel_rfl) (congrArg (Value.int .u64) h209)) ?_
     have hs212 := St.f9 hs207
     refine ops_store (off := 0) (cs := [(.int .i64 0), (.int .u64 0), (.int .u64 0), (.string ByteArray.empty)]) (vs := [(.int .i64 (r34.tmod 256)), (.int .u64 (vget img l ((slotAt i_ k_) + 2))), (.int .u64 (vget img l ((slotAt i_ k_) + 3))), (.string r190.1)]) hs212 (by kernel_rfl) (by simp) rfl (fun w210 hs211 => ?_)
     have hs213 : St B w [] w210 [blk b4 (.cells [(.int .i64 (r34.tmod 256)), (.int .u64 (vget img l ((slotAt i_ k_) + 2))), (.int .u64 (vget img l ((slotAt i_ k_) + 3))), (.string r190.1)].toArray 46 (0, 0)), kU64.row a180 c181 ([(vget img l (((slotAt i_ k_) + 4) + 0)), (vget img l (((slotAt i_ k_) + 4) + 1)), (vget img l (((slotAt i_ k_) + 4) + 2)), (vget img l (((slotAt i_ k_) + 4) + 3)), (vget img l (((slotAt i_ k_) + 4) + 4)), (vget img l (((slotAt i_ k_) + 4) + 5)), (vget img l (((slotAt i_ k_) + 4) + 6)), (vget img l (((slotAt i_ k_) + 4) + 7))]), blk b178 (.cells [(.int .u64 (vget img l (((slotAt i_ k_) + 4) + 7)))].toArray 38 (0, 0)), blk b161 (.cells [(.int .u64 (vget img l (((slotAt i_ k_) + 4) + 6)))].toArray 38 (0, 0)), blk b144 (.cells [(.int .u64 (vget img l (((slotAt i_ k_) + 4) + 5)))].toArray 38 (0, 0)), blk b127 (.cells [(.int .u64 (vget img l (((slotAt i_ k_) + 4) + 4)))].toArray 38 (0, 0)), blk b110 (.cells [(.int .u64 (vget img l (((slotAt i_ k_) + 4) + 3)))].toArray 38 (0, 0)), blk b93 (.cells [(.int .u64 (vget img l (((slotAt i_ k_) + 4) + 2)))].toArray 38 (0, 0)), blk b76 (.cells [(.int .u64 (vget img l (((slotAt i_ k_) + 4) + 1)))].toArray 38 (0, 0)), blk b59 (.cells [(.int .u64 (vget img l (((slotAt i_ k_) + 4) + 0)))].toArray 38 (0, 0))] := hs211
     refine zE 1 (hK195 _ _ ?_)
     refine W.ret ?_
     obtain rfl := some_inj hm
     have hs214 := St.tk0 hs213
     refine ret_of (.tuple #[(.int .u64 r208), (.agg #[(.int .i64 (r34.tmod 256)), (.int .u64 (vget img l ((slotAt i_ k_) + 2))), (.int .u64 (vget img l ((slotAt i_ k_) + 3))), (.string r190.1)]), (.int .i64 0)]) (resS_of (by kernel_rfl) (resD_three rfl (.tmp (by kernel_rfl)) (.agg (ad := ⟨b4, 0, none⟩) (cs := [(.int .i64 (r34.tmod 256)), (.int .u64 (vget img l ((slotAt i_ k_) + 2))), (.int .u64 (vget img l ((slotAt i_ k_) + 3))), (.string r190.1)]) (by kernel_rfl) (by kernel_rfl) (cells_sub (hs213.heapAt 0 rfl) rfl)) (.tmp (by kernel_rfl)))) ⟨_, ⟨rfl, rfl⟩, hs214⟩
   ·
    refine W.region ?_
    refine zR 4 ?_
    rcases Bool.eq_false_or_eq_true (decide (r34.tmod 256 > 24)) with h215 | h215
    ·
     obtain ⟨h215p, hm⟩ := iY hm h215
     refine zS 39 h215 ?_
     refine zS 38 h215 ?_
     refine zE 4 ?_
     exact ⟨true, slots_intro _ (by kernel_rfl), hs33, hm⟩
    ·
     obtain ⟨h215p, hm⟩ := iN hm h215
     refine zS 39 h215 ?_
     refine zS 38 h215 ?_
     refine zR 1 ?_
     obtain ⟨h216, hm⟩ := need_some hm
     refine ops_R (v := .int .u64 (r34.tdiv 256)) (runs_quo (k := .u64) (a := r34) (b := 256) (by kernel_rfl) (by decide) (wrap_u64 h216.1 (Int.lt_of_le_of_lt h216.2 (by decide)))) ?_
     refine zE 2 ?_
     exact ⟨(decide ((r34.tdiv 256) > 64)), slots_intro _ (by kernel_rfl), hs33, hm⟩
 ·
  have h13p : ¬ (r6 = 0) := of_decide_eq_false (bnot_true h13)
  replace hm := ite_no hm h13p
  refine W.sr fun K217 hK217 => ?_
  refine zR 3 ?_
  refine ops_store (off := 0) (cs := [(.int .i64 0), (.int .u64 0), (.int .u64 0), (.string ByteArray.empty)]) (vs := [(.int .i64 0), (.int .u64 0), (.int .u64 0), (.string ByteArray.empty)]) hs10 (by kernel_rfl) (by simp) rfl (fun w218 hs219 => ?_)
  have hs220 : St B w [] w218 [blk b4 (.cells [(.int .i64 0), (.int .u64 0), (.int .u64 0), (.string ByteArray.empty)].toArray 46 (0, 0))] := hs219
  refine zE 1 (hK217 _ _ ?_)
  refine W.ret (ret_seq ?_)
  obtain rfl := some_inj hm
  have hs221 := St.tk0 hs220
  refine ret_of (.tuple #[(.int .u64 0), (.agg #[(.int .i64 0), (.int .u64 0), (.int .u64 0), (.string ByteArray.empty)]), (.int .i64 r6)]) (resS_of (by kernel_rfl) (resD_three rfl (.tmp (by kernel_rfl)) (.agg (ad := ⟨b4, 0, none⟩) (cs := [(.int .i64 0), (.int .u64 0), (.int .u64 0), (.string ByteArray.empty)]) (by kernel_rfl) (by kernel_rfl) (cells_sub (hs220.heapAt 0 rfl) rfl)) (.tmp (by kernel_rfl)))) ⟨_, ⟨rfl, rfl⟩, hs221⟩

def rwipe10_B1 (img : List Int) (i_ : Int) (k17 : ((List (Int × Int)) × Int × Int) → Option (Int × List (Int × Int))) (l14 : List (Int × Int)) (p15 : Int) (p16 : Int) : Option (Int × List (Int × Int)) :=
 if p16 < 4 then (if p15 = 0 then (need (-1 ≤ (descAt i_ p16) ∧ (descAt i_ p16) ≤ 1000000) <|
(some (vwrites img (descAt i_ p16) l14 0 ([0, 0]))).bind fun r34 =>
need (-9223372036854775808 ≤ (p16 + 1) ∧ (p16 + 1) ≤ 9223372036854775807) <|
k17 (r34.2, r34.1, (p16 + 1))) else (some (p15, l14))) else (some (p15, l14))

def rwipe10_J1 (img : List Int) (i_ : Int) (l8 : List (Int × Int)) (p9 : Int) : Option (Int × List (Int × Int)) :=
 iter (fun k_ s_ => rwipe10_B1 img i_ k_ s_.1 s_.2.1 s_.2.2) FUEL (l8, p9, 0)

def rwipe10_B0 (img : List Int) (i_ : Int) (k49 : ((List (Int × Int)) × Int × Int) → Option (Int × List (Int × Int))) (l46 : List (Int × Int)) (p47 : Int) (p48 : Int) : Option (Int × List (Int × Int)) :=
 if p48 < 4 then (if p47 = 0 then ((some ((vwrite img l46 (slotAt i_ p48) 0).1)).bind fun r64 =>
need (-9223372036854775808 ≤ (p48 + 1) ∧ (p48 + 1) ≤ 9223372036854775807) <|
k49 ((vwrite img l46 (slotAt i_ p48) 0).2, r64, (p48 + 1))) else (rwipe10_J1 img i_ l46 p47)) else (rwipe10_J1 img i_ l46 p47)

def rwipe10_M (img : List Int) (l : List (Int × Int)) (i_ : Int) : Option (Int × List (Int × Int)) :=
 (rthere_M img i_ 0).bind fun r3 =>
iter (fun k_ s_ => rwipe10_B0 img i_ k_ s_.1 s_.2.1 s_.2.2) FUEL (l, r3, 0)

theorem rwipe10_walk {img : List Int} {l : List (Int × Int)} {i_ : Int} {vb : Nat} {r : Int × List (Int × Int)} (B : Nat) (w : World) (hm : rwipe10_M img l i_ = some r) : Spec Tryd.prog 48 #[(.pointer (some ⟨vb, 0, none⟩)), (.int .i64 i_)] B w [refA (ptr vb) img l] (fun v H' => v = (.int .i64 r.1) ∧ H' = [refA (ptr vb) img r.2]) := by
 refine spec_W Tryd.func48 rfl fun l0 hs => ?_
 unfold rwipe10_M at hm
 refine W.sr fun K1 hK1 => ?_
 refine zE 1 (hK1 _ _ ?_)
 refine W.sr fun K2 hK2 => ?_
 refine zR 2 ?_
 obtain ⟨r3, h4, hm⟩ := bind_some hm
 refine zC00 hs (rthere_walk (i_ := i_) (k_ := 0) (img := img) (l := l) (hv := (hs.entAt 0 rfl refA_at)) (hm := h4) B _) fun w5 hs7 => ?_
 refine zE 1 (hK2 _ _ ?_)
 refine W.seq_join (fun s_ w_ => ∃ (l8 : List (Int × Int)) (p9 : Int), (∃ us, s_ = slots 39 [(0, (.pointer (some ⟨vb, 0, none⟩))), (1, (.int .i64 i_)), (5, (.int .i64 p9))] us) ∧ St B w l0 w_ [refA (ptr vb) img l8] ∧ rwipe10_J1 img i_ l8 p9 = some r) ?_ ?_
 ·
  rintro _ w10 ⟨l8, p9, ⟨us, rfl⟩, hs11, hm⟩
  unfold rwipe10_J1 at hm
  refine W.seq fun K12 hK12 => ?_
  refine W.sr fun K13 hK13 => ?_
  refine zE 1 (hK13 _ _ ?_)
  refine W.block ?_
  refine W.loop_iter (G := (List (Int × Int)) × Int × Int) (σ := (List (Int × Int)) × Int × Int) (fun | (l14, p15, p16) => (l14, p15, p16)) (fun | (l14, p15, p16), s_, w_ => (∃ us, s_ = slots 39 [(0, (.pointer (some ⟨vb, 0, none⟩))), (1, (.int .i64 i_)), (5, (.int .i64 p15)), (7, (.int .i64 p16))] us) ∧ St B w l0 w_ [refA (ptr vb) img l14]) (l8, p9, 0) ⟨slots_intro _ (by kernel_rfl), hs11⟩ hm ?_
  rintro k17 ih18 ⟨l14, p15, p16⟩ _ w19 ⟨⟨us, rfl⟩, hs20⟩ hm
  replace hm : rwipe10_B1 img i_ k17 l14 p15 p16 = some r := hm
  unfold rwipe10_B1 at hm
  refine W.seq fun K21 hK21 => ?_
  refine W.sr fun K22 hK22 => ?_
  refine zR 3 ?_
  rcases Bool.eq_false_or_eq_true (decide (p16 < 4)) with h23 | h23
  ·
   obtain ⟨h23p, hm⟩ := iY hm h23
   refine zS 26 h23 ?_
   refine zS 25 h23 ?_
   refine zE 3 (hK22 _ _ ?_)
   refine W.cond (decide (p15 = 0)) (by kernel_rfl) (fun h24 => ?_) (fun h24 => ?_)
   ·
    obtain ⟨h24p, hm⟩ := iY hm h24
    refine W.skip ?_
    refine hK21 _ _ ?_
    refine W.seq fun K25 hK25 => ?_
    refine W.block ?_
    refine W.region ?_
    refine zR 3 ?_
    refine zC00 hs20 (rdescat_spec (i_ := i_) (k_ := p16) B _) fun w26 hs28 => ?_
    refine ops_new (fun b => .slice (some ⟨b, 0, none⟩) 2 2) (.cells [(.int .u64 0), (.int .u64 0)].toArray 38 (0, 0)) hs28 (by kernel_rfl) (fun b31 w29 hs30 => ?_)
    have hs32 : St B w l0 w29 [kU64.row (some ⟨b31, 0, none⟩) 2 ([0, 0]), refA (ptr vb) img l14] := St.kblk kU64 [0, 0] hs30 rfl rfl (by simp only [List.length_cons, List.length_nil]; decide)
    obtain ⟨h33, hm⟩ := need_some hm
    obtain ⟨r34, h35, hm⟩ := bind_some hm
    replace h35 := some_inj h35
    have hs38 := St.f1 hs32
    refine ops_call2 hs38 (by kernel_rfl) (rall_spec (b := vb) (img := img) (l := l14) (at_ := (descAt i_ p16)) (la := (some ⟨b31, 0, none⟩)) (lc := 2) (ws := [0, 0]) (n := 2) (hn := rfl) (hsz := (by simp only [List.length_cons, List.length_nil]; omega)) (hat := h33) B _) ?_
    rintro _ _ w39 ⟨hv36, hH37⟩ hs40
    rw [h35] at hv36
    try rw [h35] at hH37
    subst hv36 hH37
    have hs41 := St.ap1 hs40
    refine zE 1 ?_
    refine normal_block ?_
    refine hK25 _ _ ?_
    refine W.region ?_
    refine zR 1 ?_
    obtain ⟨h42, hm⟩ := need_some hm
    refine zI _ (wrap_i64 h42.1 h42.2) ?_
    refine zE 1 ?_
    refine loopAt_next ?_
    exact ih18 (r34.2, r34.1, (p16 + 1)) _ _ ⟨slots_intro _ (by kernel_rfl), hs41⟩ hm
   ·
    obtain ⟨h24p, hm⟩ := iN hm h24
    refine W.exit (exit_seq (exit_seq (exit_here ?_)))
    refine hK12 _ _ ?_
    refine W.sr fun K43 hK43 => ?_
    refine zE 2 (hK43 _ _ ?_)
    refine W.ret ?_
    obtain rfl := some_inj hm
    refine ret_of (.int .i64 p15) (by kernel_rfl) ⟨_, ⟨rfl, rfl⟩, hs20⟩
  ·
   obtain ⟨h23p, hm⟩ := iN hm h23
   refine zS 26 h23 ?_
   refine zS 25 h23 ?_
   refine zE 3 (hK22 _ _ ?_)
   refine W.cond_false false (by kernel_rfl) rfl ?_
   refine W.exit (exit_seq (exit_seq (exit_here ?_)))
   refine hK12 _ _ ?_
   refine W.sr fun K44 hK44 => ?_
   refine zE 2 (hK44 _ _ ?_)
   refine W.ret ?_
   obtain rfl := some_inj hm
   refine ret_of (.int .i64 p15) (by kernel_rfl) ⟨_, ⟨rfl, rfl⟩, hs20⟩
 ·
  refine W.sr fun K45 hK45 => ?_
  refine zE 1 (hK45 _ _ ?_)
  refine W.block ?_
  refine W.loop_iter (G := (List (Int × Int)) × Int × Int) (σ := (List (Int × Int)) × Int × Int) (fun | (l46, p47, p48) => (l46, p47, p48)) (fun | (l46, p47, p48), s_, w_ => (∃ us, s_ = slots 39 [(0, (.pointer (some ⟨vb, 0, none⟩))), (1, (.int .i64 i_)), (5, (.int .i64 p47)), (6, (.int .i64 p48))] us) ∧ St B w l0 w_ [refA (ptr vb) img l46]) (l, r3, 0) ⟨slots_intro _ (by kernel_rfl), hs7⟩ hm ?_
  rintro k49 ih50 ⟨l46, p47, p48⟩ _ w51 ⟨⟨us, rfl⟩, hs52⟩ hm
  replace hm : rwipe10_B0 img i_ k49 l46 p47 p48 = some r := hm
  unfold rwipe10_B0 at hm
  refine W.seq fun K53 hK53 => ?_
  refine W.sr fun K54 hK54 => ?_
  refine zR 3 ?_
  rcases Bool.eq_false_or_eq_true (decide (p48 < 4)) with h55 | h55
  ·
   obtain ⟨h55p, hm⟩ := iY hm h55
   refine zS 13 h55 ?_
   refine zS 12 h55 ?_
   refine zE 3 (hK54 _ _ ?_)
   refine W.cond (decide (p47 = 0)) (by kernel_rfl) (fun h56 => ?_) (fun h56 => ?_)
   ·
    obtain ⟨h56p, hm⟩ := iY hm h56
    refine W.skip ?_
    refine hK53 _ _ ?_
    refine W.seq fun K57 hK57 => ?_
    refine W.block ?_
    refine W.region ?_
    refine zR 3 ?_
    refine zC00 hs52 (rslotat_spec (i_ := i_) (k_ := p48) B _) fun w58 hs60 => ?_
    refine zC11 hs60 (rset_spec (b := vb) (img := img) (l := l46) (at_ := (slotAt i_ p48)) (x_ := 0) B _) fun w61 hs63 => ?_
    refine zR 1 ?_
    obtain ⟨r64, h65, hm⟩ := bind_some hm
    replace h65 := some_inj h65
    refine ops_set 5 (v := .int .i64 r64) (Eq.trans (by kernel_rfl) (congrArg (Value.int .i64) h65)) ?_
    refine zD ?_
    refine normal_block ?_
    refine hK57 _ _ ?_
    refine W.region ?_
    refine zR 1 ?_
    obtain ⟨h66, hm⟩ := need_some hm
    refine zI _ (wrap_i64 h66.1 h66.2) ?_
    refine zE 1 ?_
    refine loopAt_next ?_
    exact ih50 ((vwrite img l46 (slotAt i_ p48) 0).2, r64, (p48 + 1)) _ _ ⟨slots_intro _ (by kernel_rfl), hs63⟩ hm
   ·
    obtain ⟨h56p, hm⟩ := iN hm h56
    refine W.exit (exit_seq (exit_seq (exit_here ?_)))
    exact ⟨l46, p47, slots_intro _ (by kernel_rfl), hs52, hm⟩
  ·
   obtain ⟨h55p, hm⟩ := iN hm h55
   refine zS 13 h55 ?_
   refine zS 12 h55 ?_
   refine zE 3 (hK54 _ _ ?_)
   refine W.cond_false false (by kernel_rfl) rfl ?_
   refine W.exit (exit_seq (exit_seq (exit_here ?_)))
   exact ⟨l46, p47, slots_intro _ (by kernel_rfl), hs52, hm⟩

end Go.Proofs.YthimamnblklkbaaDoor

namespace Go.Proofs.YthimamnblklkbaaDoor
open Go Go.RowKit
set_option linter.unusedVariables false

def U64 (v : Int) : Prop := 0 ≤ v ∧ v < 18446744073709551616
theorem u64_zero : U64 0 := by unfold U64; omega
def VR (img : List Int) (l : List (Int × Int)) : Prop := ∀ k, U64 (vget img l k)
theorem VR.nil {img : List Int} (h : ∀ x ∈ img, U64 x) : VR img [] := by
  intro k
  unfold vget
  split
  · simp only [show vlook [] k = none from rfl, Option.getD_none]
    rw [List.getD_eq_getElem?_getD]
    rcases Nat.lt_or_ge k.toNat img.length with hk | hk
    · rw [List.getElem?_eq_getElem hk]; exact h _ (List.getElem_mem hk)
    · rw [List.getElem?_eq_none hk]; exact u64_zero
  · exact u64_zero
theorem VR.put {img : List Int} {l : List (Int × Int)} {a x : Int} (h : VR img l) (ha : 0 ≤ a ∧ a < img.length) (hx : U64 x) : VR img (vset l a x) := by
  intro k
  rw [vget_vset ha]
  split
  · exact hx
  · exact h k
theorem fmtW_u64 {gw gi gb : Int} : ∀ x ∈ fmtW gw gi gb, U64 x := by
  intro x hx
  unfold fmtW at hx
  split at hx
  · rename_i hm
    have hm_ := may_out hm
    unfold U64
    rcases List.mem_or_eq_of_mem_set hx with hx | rfl
    · rcases List.mem_or_eq_of_mem_set hx with hx | rfl
      · rcases List.mem_or_eq_of_mem_set hx with hx | rfl
        · rcases List.mem_or_eq_of_mem_set hx with hx | rfl
          · rcases List.mem_or_eq_of_mem_set hx with hx | rfl
            · rcases List.mem_or_eq_of_mem_set hx with hx | rfl
              · rcases List.mem_or_eq_of_mem_set hx with hx | rfl
                · rcases List.mem_or_eq_of_mem_set hx with hx | rfl
                  · have := List.eq_of_mem_replicate hx
                    omega
                  · omega
                · omega
              · omega
            · omega
          · omega
        · omega
      · omega
    · omega
  · simp at hx
end Go.Proofs.YthimamnblklkbaaDoor
