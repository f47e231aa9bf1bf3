/- Contracts of layers 6 and 7, by a program. -/
import Derived.Test.YthimamnblklkbaaF6b
namespace Go.Proofs.Ythimamnblklkbaa
open Go Go.RowKit
set_option linter.unusedSimpArgs false
set_option linter.unusedVariables false

set_option maxRecDepth 20000 in
theorem format_spec {gw gi gb : Int} (B : Nat) (w : World) : Spec Try.prog 33 #[(.agg #[(.int .i64 gw), (.int .i64 gi), (.int .i64 gb)])] B w [] (fun v H' => ∃ a' c', v = .slice a' (fmtW gw gi gb).length c' ∧ H' = [kU64.row a' c' (fmtW gw gi gb)]) := by
  refine spec_Q Try.func33 rfl fun hs => ?_
  refine W.seq fun K1 hK1 => ?_
  refine W.region ?_
  refine ops_new (fun b => .pointer (some ⟨b, 0, none⟩)) (.cells [(.int .i64 gw), (.int .i64 gi), (.int .i64 gb)].toArray 61 (0, 0)) hs (by kernel_rfl) (fun b4 w2 hs3 => ?_)
  refine ops_run 1 (by kernel_rfl) ?_
  refine ops_done (by kernel_rfl) ?_
  refine hK1 _ _ ?_
  clear hK1
  refine W.seq fun K5 hK5 => ?_
  refine W.seq fun K6 hK6 => ?_
  refine W.region ?_
  refine ops_R (runs_loadAgg (ad := ⟨b4, 0, none⟩) (cs := [(.int .i64 gw), (.int .i64 gi), (.int .i64 gb)]) (by kernel_rfl) (cells_sub (hs3.heapAt 0 rfl) rfl)) ?_
  refine ops_call (pre := []) hs3 (by kernel_rfl) (rmay_spec (gw := gw) (gi := gi) (gb := gb) B _) ?_
  rintro _ _ w7 ⟨rfl, rfl⟩ hs8
  have hs9 : St B w [] w7 [blk b4 (.cells [(.int .i64 gw), (.int .i64 gi), (.int .i64 gb)].toArray 61 (0, 0))] := hs8
  refine ops_run 1 (by kernel_rfl) ?_
  refine ops_done (by kernel_rfl) ?_
  refine hK6 _ _ ?_
  clear hK6
  refine W.cond (!(decide (May gw gi gb))) (by kernel_rfl) (fun h10 => ?_) (fun h10 => ?_)
  ·
    have h10p : ¬ (May gw gi gb) := of_decide_eq_false (bnot_true h10)
    refine W.seq fun K11 hK11 => ?_
    refine W.region ?_
    refine ops_run 1 (by kernel_rfl) ?_
    refine ops_done (by kernel_rfl) ?_
    refine hK11 _ _ ?_
    clear hK11
    refine W.ret (ret_seq ?_)
    have hs12 : St B w [] w7 [] := St.take (H := []) hs9
    have hk := St.knil kU64 hs12
    have e_ : fmtW gw gi gb = [] := if_neg (by assumption)
    refine ret_of (.slice none 0 0) (by kernel_rfl) ⟨_, ⟨none, 0, by rw [e_]; rfl, by rw [e_]⟩, hk⟩
  ·
    have h10p : May gw gi gb := of_decide_eq_true (bnot_false h10)
    have hm : May gw gi gb := h10p
    have hm_ : (1 ≤ gw ∧ gw ≤ 4) ∧ (2 ≤ gi ∧ gi ≤ 64) ∧ (2 ≤ gb ∧ gb ≤ 512) := hm
    have hwd := words_may hm
    have hp6 := place6 hm
    have hp7 := place7 hm
    have hp8 := place8_in (n := 1) hm (by omega)
    refine W.skip ?_
    refine hK5 _ _ ?_
    clear hK5
    refine W.seq fun K13 hK13 => ?_
    refine W.region ?_
    refine ops_R (runs_loadAgg (ad := ⟨b4, 0, none⟩) (cs := [(.int .i64 gw), (.int .i64 gi), (.int .i64 gb)]) (by kernel_rfl) (cells_sub (hs9.heapAt 0 rfl) rfl)) ?_
    refine ops_call (pre := []) hs9 (by kernel_rfl) (rwords_spec (gw := gw) (gi := gi) (gb := gb) B _) ?_
    rintro _ _ w14 ⟨rfl, rfl⟩ hs15
    have hs16 : St B w [] w14 [blk b4 (.cells [(.int .i64 gw), (.int .i64 gi), (.int .i64 gb)].toArray 61 (0, 0))] := hs15
    refine ops_makeSlice kU64 0 (z := (wordsOf gw gi gb)) (bytes := 8) ((wordsOf gw gi gb).toNat) (by omega) hs16 (by kernel_rfl) (by omega) (by unfold maxLen; omega) (fun b17 w18 hs19 => ?_)
    refine ops_run 1 (by kernel_rfl) ?_
    refine ops_done (by kernel_rfl) ?_
    refine hK13 _ _ ?_
    clear hK13
    refine W.seq fun K20 hK20 => ?_
    refine W.region ?_
    refine ops_run 1 (by kernel_rfl) ?_
    have hk21 : 0 < (wordsOf gw gi gb).toNat := by omega
    have hk22 : 0 < (List.replicate ((wordsOf gw gi gb).toNat) (0 : Int)).length := by simp only [List.length_set, List.length_replicate]; exact hk21
    refine ops_R (runs_index (a := (some ⟨b17, 0, none⟩)) (n := (wordsOf gw gi gb).toNat) (z := 0) (size := 1) 0 rfl hk21 (kU64.addr (St.kcells kU64 hs19 0 rfl) hk22) (by kernel_rfl)) ?_
    refine ops_storeK kU64 (j := 0) (vs := [(.int .u64 32762617960297063)]) 0 32762617960297063 hs19 hk22 (Nat.le_of_ble_eq_true rfl) (by simp) rfl rfl (by kernel_rfl) (fun w23 hs24 => ?_)
    refine ops_done (by kernel_rfl) ?_
    refine hK20 _ _ ?_
    clear hK20
    refine W.seq fun K26 hK26 => ?_
    refine W.region ?_
    refine ops_run 2 (by kernel_rfl) ?_
    refine ops_R (runs_load (ad := ⟨b4, 0, none⟩) (v := (.int .i64 gw)) (by kernel_rfl) (hs24.cellAt 1 rfl rfl)) ?_
    refine ops_val (v := .int .u64 (IntKind.u64.wrap gw)) (v' := .int .u64 gw) (by kernel_rfl) (congrArg (Value.int .u64) (wrap_u64 (by omega) (by omega))) ?_
    have hk27 : 1 < (wordsOf gw gi gb).toNat := by omega
    have hk28 : 1 < ((List.replicate ((wordsOf gw gi gb).toNat) (0 : Int)).set 0 32762617960297063).length := by simp only [List.length_set, List.length_replicate]; exact hk27
    refine ops_R (runs_index (a := (some ⟨b17, 0, none⟩)) (n := (wordsOf gw gi gb).toNat) (z := 1) (size := 1) 1 rfl hk27 (kU64.addr (St.kcells kU64 hs24 0 rfl) hk28) (by kernel_rfl)) ?_
    refine ops_storeK kU64 (j := 0) (vs := [(.int .u64 gw)]) 0 gw hs24 hk28 (Nat.le_of_ble_eq_true rfl) (by simp) rfl rfl (by kernel_rfl) (fun w29 hs30 => ?_)
    refine ops_done (by kernel_rfl) ?_
    refine hK26 _ _ ?_
    clear hK26
    refine W.seq fun K32 hK32 => ?_
    refine W.region ?_
    refine ops_run 2 (by kernel_rfl) ?_
    refine ops_R (runs_load (ad := ⟨b4, 1, none⟩) (v := (.int .i64 gi)) (by kernel_rfl) (hs30.cellAt 1 rfl rfl)) ?_
    refine ops_val (v := .int .u64 (IntKind.u64.wrap gi)) (v' := .int .u64 gi) (by kernel_rfl) (congrArg (Value.int .u64) (wrap_u64 (by omega) (by omega))) ?_
    have hk33 : 2 < (wordsOf gw gi gb).toNat := by omega
    have hk34 : 2 < (((List.replicate ((wordsOf gw gi gb).toNat) (0 : Int)).set 0 32762617960297063).set 1 gw).length := by simp only [List.length_set, List.length_replicate]; exact hk33
    refine ops_R (runs_index (a := (some ⟨b17, 0, none⟩)) (n := (wordsOf gw gi gb).toNat) (z := 2) (size := 1) 2 rfl hk33 (kU64.addr (St.kcells kU64 hs30 0 rfl) hk34) (by kernel_rfl)) ?_
    refine ops_storeK kU64 (j := 0) (vs := [(.int .u64 gi)]) 0 gi hs30 hk34 (Nat.le_of_ble_eq_true rfl) (by simp) rfl rfl (by kernel_rfl) (fun w35 hs36 => ?_)
    refine ops_done (by kernel_rfl) ?_
    refine hK32 _ _ ?_
    clear hK32
    refine W.seq fun K38 hK38 => ?_
    refine W.region ?_
    refine ops_run 2 (by kernel_rfl) ?_
    refine ops_R (runs_load (ad := ⟨b4, 2, none⟩) (v := (.int .i64 gb)) (by kernel_rfl) (hs36.cellAt 1 rfl rfl)) ?_
    refine ops_val (v := .int .u64 (IntKind.u64.wrap gb)) (v' := .int .u64 gb) (by kernel_rfl) (congrArg (Value.int .u64) (wrap_u64 (by omega) (by omega))) ?_
    have hk39 : 3 < (wordsOf gw gi gb).toNat := by omega
    have hk40 : 3 < ((((List.replicate ((wordsOf gw gi gb).toNat) (0 : Int)).set 0 32762617960297063).set 1 gw).set 2 gi).length := by simp only [List.length_set, List.length_replicate]; exact hk39
    refine ops_R (runs_index (a := (some ⟨b17, 0, none⟩)) (n := (wordsOf gw gi gb).toNat) (z := 3) (size := 1) 3 rfl hk39 (kU64.addr (St.kcells kU64 hs36 0 rfl) hk40) (by kernel_rfl)) ?_
    refine ops_storeK kU64 (j := 0) (vs := [(.int .u64 gb)]) 0 gb hs36 hk40 (Nat.le_of_ble_eq_true rfl) (by simp) rfl rfl (by kernel_rfl) (fun w41 hs42 => ?_)
    refine ops_done (by kernel_rfl) ?_
    refine hK38 _ _ ?_
    clear hK38
    refine W.seq fun K44 hK44 => ?_
    refine W.region ?_
    refine ops_run 1 (by kernel_rfl) ?_
    refine ops_R (runs_loadAgg (ad := ⟨b4, 0, none⟩) (cs := [(.int .i64 gw), (.int .i64 gi), (.int .i64 gb)]) (by kernel_rfl) (cells_sub (hs42.heapAt 1 rfl) rfl)) ?_
    refine ops_call (pre := []) hs42 (by kernel_rfl) (rmapat_spec (gw := gw) (gi := gi) (gb := gb) B _) ?_
    rintro _ _ w45 ⟨rfl, rfl⟩ hs46
    have hs47 : St B w [] w45 [kU64.row (some ⟨b17, 0, none⟩) ((wordsOf gw gi gb).toNat) (((((List.replicate ((wordsOf gw gi gb).toNat) (0 : Int)).set 0 32762617960297063).set 1 gw).set 2 gi).set 3 gb), blk b4 (.cells [(.int .i64 gw), (.int .i64 gi), (.int .i64 gb)].toArray 61 (0, 0))] := hs46
    have hk48 : (placeOf 6 gw gi gb 0).toNat < (wordsOf gw gi gb).toNat := by omega
    have hk49 : (placeOf 6 gw gi gb 0).toNat < (((((List.replicate ((wordsOf gw gi gb).toNat) (0 : Int)).set 0 32762617960297063).set 1 gw).set 2 gi).set 3 gb).length := by simp only [List.length_set, List.length_replicate]; exact hk48
    refine ops_R (runs_index (a := (some ⟨b17, 0, none⟩)) (n := (wordsOf gw gi gb).toNat) (z := (placeOf 6 gw gi gb 0)) (size := 1) ((placeOf 6 gw gi gb 0).toNat) (by omega) hk48 (kU64.addr (St.kcells kU64 hs47 0 rfl) hk49) (by kernel_rfl)) ?_
    refine ops_storeK kU64 (j := 0) (vs := [(.int .u64 3)]) 0 3 hs47 hk49 (Nat.le_of_ble_eq_true rfl) (by simp) rfl rfl (by kernel_rfl) (fun w50 hs51 => ?_)
    refine ops_done (by kernel_rfl) ?_
    refine hK44 _ _ ?_
    clear hK44
    refine W.seq fun K53 hK53 => ?_
    refine W.region ?_
    refine ops_run 1 (by kernel_rfl) ?_
    refine ops_R (runs_loadAgg (ad := ⟨b4, 0, none⟩) (cs := [(.int .i64 gw), (.int .i64 gi), (.int .i64 gb)]) (by kernel_rfl) (cells_sub (hs51.heapAt 1 rfl) rfl)) ?_
    refine ops_call (pre := []) hs51 (by kernel_rfl) (rbmapat_spec (gw := gw) (gi := gi) (gb := gb) B _) ?_
    rintro _ _ w54 ⟨rfl, rfl⟩ hs55
    have hs56 : St B w [] w54 [kU64.row (some ⟨b17, 0, none⟩) ((wordsOf gw gi gb).toNat) ((((((List.replicate ((wordsOf gw gi gb).toNat) (0 : Int)).set 0 32762617960297063).set 1 gw).set 2 gi).set 3 gb).set ((placeOf 6 gw gi gb 0).toNat) 3), blk b4 (.cells [(.int .i64 gw), (.int .i64 gi), (.int .i64 gb)].toArray 61 (0, 0))] := hs55
    have hk57 : (placeOf 7 gw gi gb 0).toNat < (wordsOf gw gi gb).toNat := by omega
    have hk58 : (placeOf 7 gw gi gb 0).toNat < ((((((List.replicate ((wordsOf gw gi gb).toNat) (0 : Int)).set 0 32762617960297063).set 1 gw).set 2 gi).set 3 gb).set ((placeOf 6 gw gi gb 0).toNat) 3).length := by simp only [List.length_set, List.length_replicate]; exact hk57
    refine ops_R (runs_index (a := (some ⟨b17, 0, none⟩)) (n := (wordsOf gw gi gb).toNat) (z := (placeOf 7 gw gi gb 0)) (size := 1) ((placeOf 7 gw gi gb 0).toNat) (by omega) hk57 (kU64.addr (St.kcells kU64 hs56 0 rfl) hk58) (by kernel_rfl)) ?_
    refine ops_storeK kU64 (j := 0) (vs := [(.int .u64 1)]) 0 1 hs56 hk58 (Nat.le_of_ble_eq_true rfl) (by simp) rfl rfl (by kernel_rfl) (fun w59 hs60 => ?_)
    refine ops_done (by kernel_rfl) ?_
    refine hK53 _ _ ?_
    clear hK53
    refine W.seq fun K62 hK62 => ?_
    refine W.region ?_
    refine ops_run 1 (by kernel_rfl) ?_
    refine ops_R (runs_loadAgg (ad := ⟨b4, 0, none⟩) (cs := [(.int .i64 gw), (.int .i64 gi), (.int .i64 gb)]) (by kernel_rfl) (cells_sub (hs60.heapAt 1 rfl) rfl)) ?_
    refine ops_call (pre := []) hs60 (by kernel_rfl) (rinodeat_spec (gw := gw) (gi := gi) (gb := gb) (n_ := 1) B _) ?_
    rintro _ _ w63 ⟨rfl, rfl⟩ hs64
    have hs65 : St B w [] w63 [kU64.row (some ⟨b17, 0, none⟩) ((wordsOf gw gi gb).toNat) (((((((List.replicate ((wordsOf gw gi gb).toNat) (0 : Int)).set 0 32762617960297063).set 1 gw).set 2 gi).set 3 gb).set ((placeOf 6 gw gi gb 0).toNat) 3).set ((placeOf 7 gw gi gb 0).toNat) 1), blk b4 (.cells [(.int .i64 gw), (.int .i64 gi), (.int .i64 gb)].toArray 61 (0, 0))] := hs64
    have hk66 : (placeOf 8 gw gi gb 1).toNat < (wordsOf gw gi gb).toNat := by omega
    have hk67 : (placeOf 8 gw gi gb 1).toNat < (((((((List.replicate ((wordsOf gw gi gb).toNat) (0 : Int)).set 0 32762617960297063).set 1 gw).set 2 gi).set 3 gb).set ((placeOf 6 gw gi gb 0).toNat) 3).set ((placeOf 7 gw gi gb 0).toNat) 1).length := by simp only [List.length_set, List.length_replicate]; exact hk66
    refine ops_R (runs_index (a := (some ⟨b17, 0, none⟩)) (n := (wordsOf gw gi gb).toNat) (z := (placeOf 8 gw gi gb 1)) (size := 1) ((placeOf 8 gw gi gb 1).toNat) (by omega) hk66 (kU64.addr (St.kcells kU64 hs65 0 rfl) hk67) (by kernel_rfl)) ?_
    refine ops_storeK kU64 (j := 0) (vs := [(.int .u64 2)]) 0 2 hs65 hk67 (Nat.le_of_ble_eq_true rfl) (by simp) rfl rfl (by kernel_rfl) (fun w68 hs69 => ?_)
    refine ops_done (by kernel_rfl) ?_
    refine hK62 _ _ ?_
    clear hK62
    refine W.seq fun K71 hK71 => ?_
    refine W.region ?_
    refine ops_run 1 (by kernel_rfl) ?_
    refine ops_R (runs_loadAgg (ad := ⟨b4, 0, none⟩) (cs := [(.int .i64 gw), (.int .i64 gi), (.int .i64 gb)]) (by kernel_rfl) (cells_sub (hs69.heapAt 1 rfl) rfl)) ?_
    refine ops_call (pre := []) hs69 (by kernel_rfl) (rinodeat_spec (gw := gw) (gi := gi) (gb := gb) (n_ := 1) B _) ?_
    rintro _ _ w72 ⟨rfl, rfl⟩ hs73
    have hs74 : St B w [] w72 [kU64.row (some ⟨b17, 0, none⟩) ((wordsOf gw gi gb).toNat) ((((((((List.replicate ((wordsOf gw gi gb).toNat) (0 : Int)).set 0 32762617960297063).set 1 gw).set 2 gi).set 3 gb).set ((placeOf 6 gw gi gb 0).toNat) 3).set ((placeOf 7 gw gi gb 0).toNat) 1).set ((placeOf 8 gw gi gb 1).toNat) 2), blk b4 (.cells [(.int .i64 gw), (.int .i64 gi), (.int .i64 gb)].toArray 61 (0, 0))] := hs73
    refine ops_val (v := .int .i64 (IntKind.i64.wrap ((placeOf 8 gw gi gb 1) + 1))) (v' := .int .i64 ((placeOf 8 gw gi gb 1) + 1)) (by kernel_rfl) (congrArg (Value.int .i64) (wrap_i64 (by omega) (by omega))) ?_
    have hk75 : ((placeOf 8 gw gi gb 1) + 1).toNat < (wordsOf gw gi gb).toNat := by omega
    have hk76 : ((placeOf 8 gw gi gb 1) + 1).toNat < ((((((((List.replicate ((wordsOf gw gi gb).toNat) (0 : Int)).set 0 32762617960297063).set 1 gw).set 2 gi).set 3 gb).set ((placeOf 6 gw gi gb 0).toNat) 3).set ((placeOf 7 gw gi gb 0).toNat) 1).set ((placeOf 8 gw gi gb 1).toNat) 2).length := by simp only [List.length_set, List.length_replicate]; exact hk75
    refine ops_R (runs_index (a := (some ⟨b17, 0, none⟩)) (n := (wordsOf gw gi gb).toNat) (z := ((placeOf 8 gw gi gb 1) + 1)) (size := 1) (((placeOf 8 gw gi gb 1) + 1).toNat) (by omega) hk75 (kU64.addr (St.kcells kU64 hs74 0 rfl) hk76) (by kernel_rfl)) ?_
    refine ops_storeK kU64 (j := 0) (vs := [(.int .u64 1)]) 0 1 hs74 hk76 (Nat.le_of_ble_eq_true rfl) (by simp) rfl rfl (by kernel_rfl) (fun w77 hs78 => ?_)
    refine ops_done (by kernel_rfl) ?_
    refine hK71 _ _ ?_
    clear hK71
    refine W.seq fun K80 hK80 => ?_
    refine W.region ?_
    refine ops_run 2 (by kernel_rfl) ?_
    refine ops_done (by kernel_rfl) ?_
    refine hK80 _ _ ?_
    clear hK80
    refine W.ret ?_
    have hs81 : St B w [] w77 [kU64.row (some ⟨b17, 0, none⟩) ((wordsOf gw gi gb).toNat) (((((((((List.replicate ((wordsOf gw gi gb).toNat) (0 : Int)).set 0 32762617960297063).set 1 gw).set 2 gi).set 3 gb).set ((placeOf 6 gw gi gb 0).toNat) 3).set ((placeOf 7 gw gi gb 0).toNat) 1).set ((placeOf 8 gw gi gb 1).toNat) 2).set (((placeOf 8 gw gi gb 1) + 1).toNat) 1)] := St.take (H := [kU64.row (some ⟨b17, 0, none⟩) ((wordsOf gw gi gb).toNat) (((((((((List.replicate ((wordsOf gw gi gb).toNat) (0 : Int)).set 0 32762617960297063).set 1 gw).set 2 gi).set 3 gb).set ((placeOf 6 gw gi gb 0).toNat) 3).set ((placeOf 7 gw gi gb 0).toNat) 1).set ((placeOf 8 gw gi gb 1).toNat) 2).set (((placeOf 8 gw gi gb 1) + 1).toNat) 1)]) hs78
    have e_ : (((((((((List.replicate ((wordsOf gw gi gb).toNat) (0 : Int)).set 0 32762617960297063).set 1 gw).set 2 gi).set 3 gb).set ((placeOf 6 gw gi gb 0).toNat) 3).set ((placeOf 7 gw gi gb 0).toNat) 1).set ((placeOf 8 gw gi gb 1).toNat) 2).set (((placeOf 8 gw gi gb 1) + 1).toNat) 1) = fmtW gw gi gb := (if_pos hm).symm
    have hs_ := hs81
    rw [e_] at hs_
    refine ret_of (.slice (some ⟨b17, 0, none⟩) ((wordsOf gw gi gb).toNat) ((wordsOf gw gi gb).toNat)) (by kernel_rfl) ⟨_, ⟨(some ⟨b17, 0, none⟩), (wordsOf gw gi gb).toNat, by rw [fmtW_len], rfl⟩, hs_⟩

set_option maxRecDepth 20000 in
theorem small_spec {x_ y_ : Int} (B : Nat) (w : World) (hx : 0 ≤ x_ ∧ x_ ≤ 255) (hy : 0 ≤ y_ ∧ y_ ≤ 255) : Spec Try.prog 30 #[(.int .u8 x_), (.int .u8 y_)] B w [] (fun v H' => v = .agg #[.int .i64 1, .int .i64 (2 + x_ % 20), .int .i64 (2 + y_ % 60)] ∧ H' = []) := by
  refine spec_Q Try.func30 rfl fun hs => ?_
  refine W.seq fun K1 hK1 => ?_
  refine W.region ?_
  refine ops_new (fun b => .pointer (some ⟨b, 0, none⟩)) (.cells [(.int .i64 0), (.int .i64 0), (.int .i64 0)].toArray 56 (0, 0)) hs (by kernel_rfl) (fun b4 w2 hs3 => ?_)
  refine ops_done (by kernel_rfl) ?_
  refine hK1 _ _ ?_
  clear hK1
  refine W.seq fun K5 hK5 => ?_
  refine W.region ?_
  refine ops_run 1 (by kernel_rfl) ?_
  refine ops_val (v := .int .i64 (IntKind.i64.wrap x_)) (v' := .int .i64 x_) (by kernel_rfl) (congrArg (Value.int .i64) (wrap_i64 (by omega) (by omega))) ?_
  obtain ⟨r6, hr7, hl8, he9⟩ := rem_nat (x := x_) (y := 20) (by omega) (by omega)
  refine ops_R (v := .int .i64 (r6 : Int)) (runs_rem (k := .i64) (a := x_) (b := 20) (by kernel_rfl) (by omega) hr7) ?_
  refine ops_val (v := .int .i64 (IntKind.i64.wrap (2 + (r6 : Int)))) (v' := .int .i64 (2 + (r6 : Int))) (by kernel_rfl) (congrArg (Value.int .i64) (wrap_i64 (by omega) (by omega))) ?_
  refine ops_run 1 (by kernel_rfl) ?_
  refine ops_val (v := .int .i64 (IntKind.i64.wrap y_)) (v' := .int .i64 y_) (by kernel_rfl) (congrArg (Value.int .i64) (wrap_i64 (by omega) (by omega))) ?_
  obtain ⟨r10, hr11, hl12, he13⟩ := rem_nat (x := y_) (y := 60) (by omega) (by omega)
  refine ops_R (v := .int .i64 (r10 : Int)) (runs_rem (k := .i64) (a := y_) (b := 60) (by kernel_rfl) (by omega) hr11) ?_
  refine ops_val (v := .int .i64 (IntKind.i64.wrap (2 + (r10 : Int)))) (v' := .int .i64 (2 + (r10 : Int))) (by kernel_rfl) (congrArg (Value.int .i64) (wrap_i64 (by omega) (by omega))) ?_
  refine ops_run 1 (by kernel_rfl) ?_
  refine ops_store (off := 0) (cs := [(.int .i64 0), (.int .i64 0), (.int .i64 0)]) (vs := [(.int .i64 1), (.int .i64 (2 + (r6 : Int))), (.int .i64 (2 + (r10 : Int)))]) hs3 (by kernel_rfl) (by simp) rfl (fun w14 hs15 => ?_)
  have hs16 : St B w [] w14 [blk b4 (.cells [(.int .i64 1), (.int .i64 (2 + (r6 : Int))), (.int .i64 (2 + (r10 : Int)))].toArray 56 (0, 0))] := hs15
  refine ops_done (by kernel_rfl) ?_
  refine hK5 _ _ ?_
  clear hK5
  refine W.ret ?_
  have hs17 : St B w [] w14 [] := St.take (H := []) hs16
  refine ret_of (.agg #[(.int .i64 1), (.int .i64 (2 + (r6 : Int))), (.int .i64 (2 + (r10 : Int)))]) (results_cell (ad := ⟨b4, 0, none⟩) (cs := [(.int .i64 1), (.int .i64 (2 + (r6 : Int))), (.int .i64 (2 + (r10 : Int)))]) rfl (by kernel_rfl) (by kernel_rfl) (cells_sub (hs16.heapAt 0 rfl) rfl)) ⟨_, ⟨by simp only [*], rfl⟩, hs17⟩

end Go.Proofs.Ythimamnblklkbaa
