/- Texts of one kind, one behind the other: F6c, F7a, F7f, F7g, A7b, F7c, A7d, K7, Ro7. -/
import Derived.Test.YthimamnblklkbaaDoorGE
import Derived.Test.YthimamnblklkbaaDoorGC
import Derived.Test.YthimamnblklkbaaDoorGD
import Derived.Test.YthimamnblklkbaaDoorGA
set_option linter.unusedVariables false
set_option linter.unusedSimpArgs false
/- Contracts of layers 6 and 7, by a program. -/
namespace Go.Proofs.YthimamnblklkbaaDoor
open Go Go.RowKit
set_option linter.unusedSimpArgs false
set_option linter.unusedVariables false

set_option maxRecDepth 20000 in
theorem format_spec {gw gi gb : Int} (B : Nat) (w : World) : Spec Tryd.prog 63 #[(.agg #[(.int .i64 gw), (.int .i64 gi), (.int .i64 gb)])] B w [] (fun v H' => ∃ a' c', v = .slice a' (fmtW gw gi gb).length c' ∧ H' = [kU64.row a' c' (fmtW gw gi gb)]) := by
  refine spec_Q Tryd.func63 rfl fun hs => ?_
  refine W.seq fun K1 hK1 => ?_
  refine W.region ?_
  refine ops_new (fun b => .pointer (some ⟨b, 0, none⟩)) (.cells [(.int .i64 gw), (.int .i64 gi), (.int .i64 gb)].toArray 88 (0, 0)) hs (by kernel_rfl) (fun b4 w2 hs3 => ?_)
  refine ops_run 1 (by kernel_rfl) ?_
  refine ops_done (by kernel_rfl) ?_
  refine hK1 _ _ ?_
  clear hK1
  refine W.seq fun K5 hK5 => ?_
  refine W.seq fun K6 hK6 => ?_
  refine W.region ?_
  refine ops_R (runs_loadAgg (ad := ⟨b4, 0, none⟩) (cs := [(.int .i64 gw), (.int .i64 gi), (.int .i64 gb)]) (by kernel_rfl) (cells_sub (hs3.heapAt 0 rfl) rfl)) ?_
  refine ops_call0 hs3 (by kernel_rfl) (rmay_spec (gw := gw) (gi := gi) (gb := gb) B _) ?_
  rintro _ _ w7 ⟨rfl, rfl⟩ hs8
  have hs9 := St.ap0 hs8
  refine ops_run 1 (by kernel_rfl) ?_
  refine ops_done (by kernel_rfl) ?_
  refine hK6 _ _ ?_
  clear hK6
  refine W.cond (!(decide (May gw gi gb))) (by kernel_rfl) (fun h10 => ?_) (fun h10 => ?_)
  ·
    have h10p : ¬ (May gw gi gb) := of_decide_eq_false (bnot_true h10)
    refine W.seq fun K11 hK11 => ?_
    refine W.region ?_
    refine ops_run 1 (by kernel_rfl) ?_
    refine ops_done (by kernel_rfl) ?_
    refine hK11 _ _ ?_
    clear hK11
    refine W.ret (ret_seq ?_)
    have hs12 := St.tk0 hs9
    have hk := St.knil kU64 hs12
    have e_ : fmtW gw gi gb = [] := if_neg (by assumption)
    refine ret_of (.slice none 0 0) (by kernel_rfl) ⟨_, ⟨none, 0, by rw [e_]; rfl, by rw [e_]⟩, hk⟩
  ·
    have h10p : May gw gi gb := of_decide_eq_true (bnot_false h10)
    have hm : May gw gi gb := h10p
    have hm_ : (1 ≤ gw ∧ gw ≤ 4) ∧ (2 ≤ gi ∧ gi ≤ 64) ∧ (2 ≤ gb ∧ gb ≤ 512) := hm
    have hwd := words_may hm
    have hp6 := place6 hm
    have hp7 := place7 hm
    have hp8 := place8_in (n := 1) hm (by omega)
    refine W.skip ?_
    refine hK5 _ _ ?_
    clear hK5
    refine W.seq fun K13 hK13 => ?_
    refine W.region ?_
    refine ops_R (runs_loadAgg (ad := ⟨b4, 0, none⟩) (cs := [(.int .i64 gw), (.int .i64 gi), (.int .i64 gb)]) (by kernel_rfl) (cells_sub (hs9.heapAt 0 rfl) rfl)) ?_
    refine ops_call0 hs9 (by kernel_rfl) (rwords_spec (gw := gw) (gi := gi) (gb := gb) B _) ?_
    rintro _ _ w14 ⟨rfl, rfl⟩ hs15
    have hs16 := St.ap0 hs15
    refine ops_makeSlice kU64 0 (z := (wordsOf gw gi gb)) (bytes := 8) ((wordsOf gw gi gb).toNat) (by omega) hs16 (by kernel_rfl) (by omega) (by unfold maxLen; omega) (fun b17 w18 hs19 => ?_)
    refine ops_run 1 (by kernel_rfl) ?_
    refine ops_done (by kernel_rfl) ?_
    refine hK13 _ _ ?_
    clear hK13
    refine W.seq fun K20 hK20 => ?_
    refine W.region ?_
    refine ops_run 1 (by kernel_rfl) ?_
    have hk21 : 0 < (wordsOf gw gi gb).toNat := by omega
    have hk22 : 0 < (List.replicate ((wordsOf gw gi gb).toNat) (0 : Int)).length := by simp only [List.length_set, List.length_replicate]; exact hk21
    refine ops_R (runs_index (a := (some ⟨b17, 0, none⟩)) (n := (wordsOf gw gi gb).toNat) (z := 0) (size := 1) 0 rfl hk21 (kU64.addr (St.kcells kU64 hs19 0 rfl) hk22) (by kernel_rfl)) ?_
    refine ops_storeK kU64 (j := 0) (vs := [(.int .u64 32762617960297063)]) 0 32762617960297063 hs19 hk22 (Nat.le_of_ble_eq_true rfl) (by simp) rfl rfl (by kernel_rfl) (fun w23 hs24 => ?_)
    refine ops_done (by kernel_rfl) ?_
    refine hK20 _ _ ?_
    clear hK20
    refine W.seq fun K26 hK26 => ?_
    refine W.region ?_
    refine ops_run 2 (by kernel_rfl) ?_
    refine ops_R (runs_load (ad := ⟨b4, 0, none⟩) (v := (.int .i64 gw)) (by kernel_rfl) (hs24.cellAt 1 rfl rfl)) ?_
    refine ops_val (v := .int .u64 (IntKind.u64.wrap gw)) (v' := .int .u64 gw) (by kernel_rfl) (congrArg (Value.int .u64) (wrap_u64 (by omega) (by omega))) ?_
    have hk27 : 1 < (wordsOf gw gi gb).toNat := by omega
    have hk28 : 1 < ((List.replicate ((wordsOf gw gi gb).toNat) (0 : Int)).set 0 32762617960297063).length := by simp only [List.length_set, List.length_replicate]; exact hk27
    refine ops_R (runs_index (a := (some ⟨b17, 0, none⟩)) (n := (wordsOf gw gi gb).toNat) (z := 1) (size := 1) 1 rfl hk27 (kU64.addr (St.kcells kU64 hs24 0 rfl) hk28) (by kernel_rfl)) ?_
    refine ops_storeK kU64 (j := 0) (vs := [(.int .u64 gw)]) 0 gw hs24 hk28 (Nat.le_of_ble_eq_true rfl) (by simp) rfl rfl (by kernel_rfl) (fun w29 hs30 => ?_)
    refine ops_done (by kernel_rfl) ?_
    refine hK26 _ _ ?_
    clear hK26
    refine W.seq fun K32 hK32 => ?_
    refine W.region ?_
    refine ops_run 2 (by kernel_rfl) ?_
    refine ops_R (runs_load (ad := ⟨b4, 1, none⟩) (v := (.int .i64 gi)) (by kernel_rfl) (hs30.cellAt 1 rfl rfl)) ?_
    refine ops_val (v := .int .u64 (IntKind.u64.wrap gi)) (v' := .int .u64 gi) (by kernel_rfl) (congrArg (Value.int .u64) (wrap_u64 (by omega) (by omega))) ?_
    have hk33 : 2 < (wordsOf gw gi gb).toNat := by omega
    have hk34 : 2 < (((List.replicate ((wordsOf gw gi gb).toNat) (0 : Int)).set 0 32762617960297063).set 1 gw).length := by simp only [List.length_set, List.length_replicate]; exact hk33
    refine ops_R (runs_index (a := (some ⟨b17, 0, none⟩)) (n := (wordsOf gw gi gb).toNat) (z := 2) (size := 1) 2 rfl hk33 (kU64.addr (St.kcells kU64 hs30 0 rfl) hk34) (by kernel_rfl)) ?_
    refine ops_storeK kU64 (j := 0) (vs := [(.int .u64 gi)]) 0 gi hs30 hk34 (Nat.le_of_ble_eq_true rfl) (by simp) rfl rfl (by kernel_rfl) (fun w35 hs36 => ?_)
    refine ops_done (by kernel_rfl) ?_
    refine hK32 _ _ ?_
    clear hK32
    refine W.seq fun K38 hK38 => ?_
    refine W.region ?_
    refine ops_run 2 (by kernel_rfl) ?_
    refine ops_R (runs_load (ad := ⟨b4, 2, none⟩) (v := (.int .i64 gb)) (by kernel_rfl) (hs36.cellAt 1 rfl rfl)) ?_
    refine ops_val (v := .int .u64 (IntKind.u64.wrap gb)) (v' := .int .u64 gb) (by kernel_rfl) (congrArg (Value.int .u64) (wrap_u64 (by omega) (by omega))) ?_
    have hk39 : 3 < (wordsOf gw gi gb).toNat := by omega
    have hk40 : 3 < ((((List.replicate ((wordsOf gw gi gb).toNat) (0 : Int)).set 0 32762617960297063).set 1 gw).set 2 gi).length := by simp only [List.length_set, List.length_replicate]; exact hk39
    refine ops_R (runs_index (a := (some ⟨b17, 0, none⟩)) (n := (wordsOf gw gi gb).toNat) (z := 3) (size := 1) 3 rfl hk39 (kU64.addr (St.kcells kU64 hs36 0 rfl) hk40) (by kernel_rfl)) ?_
    refine ops_storeK kU64 (j := 0) (vs := [(.int .u64 gb)]) 0 gb hs36 hk40 (Nat.le_of_ble_eq_true rfl) (by simp) rfl rfl (by kernel_rfl) (fun w41 hs42 => ?_)
    refine ops_done (by kernel_rfl) ?_
    refine hK38 _ _ ?_
    clear hK38
    refine W.seq fun K44 hK44 => ?_
    refine W.region ?_
    refine ops_run 1 (by kernel_rfl) ?_
    refine ops_R (runs_loadAgg (ad := ⟨b4, 0, none⟩) (cs := [(.int .i64 gw), (.int .i64 gi), (.int .i64 gb)]) (by kernel_rfl) (cells_sub (hs42.heapAt 1 rfl) rfl)) ?_
    refine ops_call0 hs42 (by kernel_rfl) (rmapat_spec (gw := gw) (gi := gi) (gb := gb) B _) ?_
    rintro _ _ w45 ⟨rfl, rfl⟩ hs46
    have hs47 := St.ap0 hs46
    have hk48 : (placeOf 6 gw gi gb 0).toNat < (wordsOf gw gi gb).toNat := by omega
    have hk49 : (placeOf 6 gw gi gb 0).toNat < (((((List.replicate ((wordsOf gw gi gb).toNat) (0 : Int)).set 0 32762617960297063).set 1 gw).set 2 gi).set 3 gb).length := by simp only [List.length_set, List.length_replicate]; exact hk48
    refine ops_R (runs_index (a := (some ⟨b17, 0, none⟩)) (n := (wordsOf gw gi gb).toNat) (z := (placeOf 6 gw gi gb 0)) (size := 1) ((placeOf 6 gw gi gb 0).toNat) (by omega) hk48 (kU64.addr (St.kcells kU64 hs47 0 rfl) hk49) (by kernel_rfl)) ?_
    refine ops_storeK kU64 (j := 0) (vs := [(.int .u64 3)]) 0 3 hs47 hk49 (Nat.le_of_ble_eq_true rfl) (by simp) rfl rfl (by kernel_rfl) (fun w50 hs51 => ?_)
    refine ops_done (by kernel_rfl) ?_
    refine hK44 _ _ ?_
    clear hK44
    refine W.seq fun K53 hK53 => ?_
    refine W.region ?_
    refine ops_run 1 (by kernel_rfl) ?_
    refine ops_R (runs_loadAgg (ad := ⟨b4, 0, none⟩) (cs := [(.int .i64 gw), (.int .i64 gi), (.int .i64 gb)]) (by kernel_rfl) (cells_sub (hs51.heapAt 1 rfl) rfl)) ?_
    refine ops_call0 hs51 (by kernel_rfl) (rbmapat_spec (gw := gw) (gi := gi) (gb := gb) B _) ?_
    rintro _ _ w54 ⟨rfl, rfl⟩ hs55
    have hs56 := St.ap0 hs55
    have hk57 : (placeOf 7 gw gi gb 0).toNat < (wordsOf gw gi gb).toNat := by omega
    have hk58 : (placeOf 7 gw gi gb 0).toNat < ((((((List.replicate ((wordsOf gw gi gb).toNat) (0 : Int)).set 0 32762617960297063).set 1 gw).set 2 gi).set 3 gb).set ((placeOf 6 gw gi gb 0).toNat) 3).length := by simp only [List.length_set, List.length_replicate]; exact hk57
    refine ops_R (runs_index (a := (some ⟨b17, 0, none⟩)) (n := (wordsOf gw gi gb).toNat) (z := (placeOf 7 gw gi gb 0)) (size := 1) ((placeOf 7 gw gi gb 0).toNat) (by omega) hk57 (kU64.addr (St.kcells kU64 hs56 0 rfl) hk58) (by kernel_rfl)) ?_
    refine ops_storeK kU64 (j := 0) (vs := [(.int .u64 1)]) 0 1 hs56 hk58 (Nat.le_of_ble_eq_true rfl) (by simp) rfl rfl (by kernel_rfl) (fun w59 hs60 => ?_)
    refine ops_done (by kernel_rfl) ?_
    refine hK53 _ _ ?_
    clear hK53
    refine W.seq fun K62 hK62 => ?_
    refine W.region ?_
    refine ops_run 1 (by kernel_rfl) ?_
    refine ops_R (runs_loadAgg (ad := ⟨b4, 0, none⟩) (cs := [(.int .i64 gw), (.int .i64 gi), (.int .i64 gb)]) (by kernel_rfl) (cells_sub (hs60.heapAt 1 rfl) rfl)) ?_
    refine ops_call0 hs60 (by kernel_rfl) (rinodeat_spec (gw := gw) (gi := gi) (gb := gb) (n_ := 1) B _) ?_
    rintro _ _ w63 ⟨rfl, rfl⟩ hs64
    have hs65 := St.ap0 hs64
    have hk66 : (placeOf 8 gw gi gb 1).toNat < (wordsOf gw gi gb).toNat := by omega
    have hk67 : (placeOf 8 gw gi gb 1).toNat < (((((((List.replicate ((wordsOf gw gi gb).toNat) (0 : Int)).set 0 32762617960297063).set 1 gw).set 2 gi).set 3 gb).set ((placeOf 6 gw gi gb 0).toNat) 3).set ((placeOf 7 gw gi gb 0).toNat) 1).length := by simp only [List.length_set, List.length_replicate]; exact hk66
    refine ops_R (runs_index (a := (some ⟨b17, 0, none⟩)) (n := (wordsOf gw gi gb).toNat) (z := (placeOf 8 gw gi gb 1)) (size := 1) ((placeOf 8 gw gi gb 1).toNat) (by omega) hk66 (kU64.addr (St.kcells kU64 hs65 0 rfl) hk67) (by kernel_rfl)) ?_
    refine ops_storeK kU64 (j := 0) (vs := [(.int .u64 2)]) 0 2 hs65 hk67 (Nat.le_of_ble_eq_true rfl) (by simp) rfl rfl (by kernel_rfl) (fun w68 hs69 => ?_)
    refine ops_done (by kernel_rfl) ?_
    refine hK62 _ _ ?_
    clear hK62
    refine W.seq fun K71 hK71 => ?_
    refine W.region ?_
    refine ops_run 1 (by kernel_rfl) ?_
    refine ops_R (runs_loadAgg (ad := ⟨b4, 0, none⟩) (cs := [(.int .i64 gw), (.int .i64 gi), (.int .i64 gb)]) (by kernel_rfl) (cells_sub (hs69.heapAt 1 rfl) rfl)) ?_
    refine ops_call0 hs69 (by kernel_rfl) (rinodeat_spec (gw := gw) (gi := gi) (gb := gb) (n_ := 1) B _) ?_
    rintro _ _ w72 ⟨rfl, rfl⟩ hs73
    have hs74 := St.ap0 hs73
    refine ops_val (v := .int .i64 (IntKind.i64.wrap ((placeOf 8 gw gi gb 1) + 1))) (v' := .int .i64 ((placeOf 8 gw gi gb 1) + 1)) (by kernel_rfl) (congrArg (Value.int .i64) (wrap_i64 (by omega) (by omega))) ?_
    have hk75 : ((placeOf 8 gw gi gb 1) + 1).toNat < (wordsOf gw gi gb).toNat := by omega
    have hk76 : ((placeOf 8 gw gi gb 1) + 1).toNat < ((((((((List.replicate ((wordsOf gw gi gb).toNat) (0 : Int)).set 0 32762617960297063).set 1 gw).set 2 gi).set 3 gb).set ((placeOf 6 gw gi gb 0).toNat) 3).set ((placeOf 7 gw gi gb 0).toNat) 1).set ((placeOf 8 gw gi gb 1).toNat) 2).length := by simp only [List.length_set, List.length_replicate]; exact hk75
    refine ops_R (runs_index (a := (some ⟨b17, 0, none⟩)) (n := (wordsOf gw gi gb).toNat) (z := ((placeOf 8 gw gi gb 1) + 1)) (size := 1) (((placeOf 8 gw gi gb 1) + 1).toNat) (by omega) hk75 (kU64.addr (St.kcells kU64 hs74 0 rfl) hk76) (by kernel_rfl)) ?_
    refine ops_storeK kU64 (j := 0) (vs := [(.int .u64 1)]) 0 1 hs74 hk76 (Nat.le_of_ble_eq_true rfl) (by simp) rfl rfl (by kernel_rfl) (fun w77 hs78 => ?_)
    refine ops_done (by kernel_rfl) ?_
    refine hK71 _ _ ?_
    clear hK71
    refine W.seq fun K80 hK80 => ?_
    refine W.region ?_
    refine ops_run 2 (by kernel_rfl) ?_
    refine ops_done (by kernel_rfl) ?_
    refine hK80 _ _ ?_
    clear hK80
    refine W.ret ?_
    have hs81 := St.tk1 hs78
    have e_ : (((((((((List.replicate ((wordsOf gw gi gb).toNat) (0 : Int)).set 0 32762617960297063).set 1 gw).set 2 gi).set 3 gb).set ((placeOf 6 gw gi gb 0).toNat) 3).set ((placeOf 7 gw gi gb 0).toNat) 1).set ((placeOf 8 gw gi gb 1).toNat) 2).set (((placeOf 8 gw gi gb 1) + 1).toNat) 1) = fmtW gw gi gb := (if_pos hm).symm
    have hs_ := hs81
    rw [e_] at hs_
    refine ret_of (.slice (some ⟨b17, 0, none⟩) ((wordsOf gw gi gb).toNat) ((wordsOf gw gi gb).toNat)) (by kernel_rfl) ⟨_, ⟨(some ⟨b17, 0, none⟩), (wordsOf gw gi gb).toNat, by rw [fmtW_len], rfl⟩, hs_⟩

set_option maxRecDepth 20000 in
theorem small_spec {x_ y_ : Int} (B : Nat) (w : World) (hx : 0 ≤ x_ ∧ x_ ≤ 255) (hy : 0 ≤ y_ ∧ y_ ≤ 255) : Spec Tryd.prog 39 #[(.int .u8 x_), (.int .u8 y_)] B w [] (fun v H' => v = .agg #[.int .i64 1, .int .i64 (2 + x_ % 20), .int .i64 (2 + y_ % 60)] ∧ H' = []) := by
  refine spec_Q Tryd.func39 rfl fun hs => ?_
  refine W.seq fun K1 hK1 => ?_
  refine W.region ?_
  refine ops_new (fun b => .pointer (some ⟨b, 0, none⟩)) (.cells [(.int .i64 0), (.int .i64 0), (.int .i64 0)].toArray 63 (0, 0)) hs (by kernel_rfl) (fun b4 w2 hs3 => ?_)
  refine ops_done (by kernel_rfl) ?_
  refine hK1 _ _ ?_
  clear hK1
  refine W.seq fun K5 hK5 => ?_
  refine W.region ?_
  refine ops_run 1 (by kernel_rfl) ?_
  refine ops_val (v := .int .i64 (IntKind.i64.wrap x_)) (v' := .int .i64 x_) (by kernel_rfl) (congrArg (Value.int .i64) (wrap_i64 (by omega) (by omega))) ?_
  obtain ⟨r6, hr7, hl8, he9⟩ := rem_nat (x := x_) (y := 20) (by omega) (by omega)
  refine ops_R (v := .int .i64 (r6 : Int)) (runs_rem (k := .i64) (a := x_) (b := 20) (by kernel_rfl) (by omega) hr7) ?_
  refine ops_val (v := .int .i64 (IntKind.i64.wrap (2 + (r6 : Int)))) (v' := .int .i64 (2 + (r6 : Int))) (by kernel_rfl) (congrArg (Value.int .i64) (wrap_i64 (by omega) (by omega))) ?_
  refine ops_run 1 (by kernel_rfl) ?_
  refine ops_val (v := .int .i64 (IntKind.i64.wrap y_)) (v' := .int .i64 y_) (by kernel_rfl) (congrArg (Value.int .i64) (wrap_i64 (by omega) (by omega))) ?_
  obtain ⟨r10, hr11, hl12, he13⟩ := rem_nat (x := y_) (y := 60) (by omega) (by omega)
  refine ops_R (v := .int .i64 (r10 : Int)) (runs_rem (k := .i64) (a := y_) (b := 60) (by kernel_rfl) (by omega) hr11) ?_
  refine ops_val (v := .int .i64 (IntKind.i64.wrap (2 + (r10 : Int)))) (v' := .int .i64 (2 + (r10 : Int))) (by kernel_rfl) (congrArg (Value.int .i64) (wrap_i64 (by omega) (by omega))) ?_
  refine ops_run 1 (by kernel_rfl) ?_
  refine ops_store (off := 0) (cs := [(.int .i64 0), (.int .i64 0), (.int .i64 0)]) (vs := [(.int .i64 1), (.int .i64 (2 + (r6 : Int))), (.int .i64 (2 + (r10 : Int)))]) hs3 (by kernel_rfl) (by simp) rfl (fun w14 hs15 => ?_)
  have hs16 : St B w [] w14 [blk b4 (.cells [(.int .i64 1), (.int .i64 (2 + (r6 : Int))), (.int .i64 (2 + (r10 : Int)))].toArray 63 (0, 0))] := hs15
  refine ops_done (by kernel_rfl) ?_
  refine hK5 _ _ ?_
  clear hK5
  refine W.ret ?_
  have hs17 := St.tk0 hs16
  refine ret_of (.agg #[(.int .i64 1), (.int .i64 (2 + (r6 : Int))), (.int .i64 (2 + (r10 : Int)))]) (results_cell (ad := ⟨b4, 0, none⟩) (cs := [(.int .i64 1), (.int .i64 (2 + (r6 : Int))), (.int .i64 (2 + (r10 : Int)))]) rfl (by kernel_rfl) (by kernel_rfl) (cells_sub (hs16.heapAt 0 rfl) rfl)) ⟨_, ⟨by simp only [*], rfl⟩, hs17⟩

end Go.Proofs.YthimamnblklkbaaDoor

/- Contracts of layout. -/
namespace Go.Proofs.YthimamnblklkbaaDoor
open Go Go.RowKit
set_option linter.unusedSimpArgs false
set_option linter.unusedVariables false

set_option maxRecDepth 20000 in
theorem blockat_spec {gw gi gb n_ : Int} (B : Nat) (w : World) : Spec Tryd.prog 80 #[(.agg #[(.int .i64 gw), (.int .i64 gi), (.int .i64 gb)]), (.int .i64 n_)] B w [] (fun v H' => v = .int .i64 (placeOf 9 gw gi gb n_) ∧ H' = []) := by
  refine spec_Q Tryd.func80 rfl fun hs => ?_
  refine W.seq fun K1 hK1 => ?_
  refine W.region ?_
  refine ops_new (fun b => .pointer (some ⟨b, 0, none⟩)) (.cells [(.int .i64 gw), (.int .i64 gi), (.int .i64 gb)].toArray 63 (0, 0)) hs (by kernel_rfl) (fun b4 w2 hs3 => ?_)
  refine ops_run 1 (by kernel_rfl) ?_
  refine ops_done (by kernel_rfl) ?_
  refine hK1 _ _ ?_
  clear hK1
  refine W.seq fun K5 hK5 => ?_
  refine W.region ?_
  refine ops_R (runs_loadAgg (ad := ⟨b4, 0, none⟩) (cs := [(.int .i64 gw), (.int .i64 gi), (.int .i64 gb)]) (by kernel_rfl) (cells_sub (hs3.heapAt 0 rfl) rfl)) ?_
  refine ops_run 1 (by kernel_rfl) ?_
  refine ops_call0 hs3 (by kernel_rfl) (place9_spec (gw := gw) (gi := gi) (gb := gb) (n_ := n_) B _) ?_
  rintro _ _ w6 ⟨rfl, rfl⟩ hs7
  have hs8 := St.ap0 hs7
  refine ops_run 1 (by kernel_rfl) ?_
  refine ops_done (by kernel_rfl) ?_
  refine hK5 _ _ ?_
  clear hK5
  refine W.ret ?_
  have hs9 := St.tk0 hs8
  refine ret_of (.int .i64 (placeOf 9 gw gi gb n_)) (by kernel_rfl) ⟨_, ⟨rfl, rfl⟩, hs9⟩

set_option maxRecDepth 20000 in
theorem lmap6_spec {gw gi gb : Int} (B : Nat) (w : World) : Spec Tryd.prog 122 #[(.agg #[(.int .i64 gw), (.int .i64 gi), (.int .i64 gb)])] B w [] (fun v H' => v = .int .i64 (placeOf 6 gw gi gb 0) ∧ H' = []) := by
  refine spec_Q Tryd.func122 rfl fun hs => ?_
  refine W.seq fun K1 hK1 => ?_
  refine W.region ?_
  refine ops_new (fun b => .pointer (some ⟨b, 0, none⟩)) (.cells [(.int .i64 gw), (.int .i64 gi), (.int .i64 gb)].toArray 63 (0, 0)) hs (by kernel_rfl) (fun b4 w2 hs3 => ?_)
  refine ops_run 1 (by kernel_rfl) ?_
  refine ops_done (by kernel_rfl) ?_
  refine hK1 _ _ ?_
  clear hK1
  refine W.seq fun K5 hK5 => ?_
  refine W.region ?_
  refine ops_R (runs_loadAgg (ad := ⟨b4, 0, none⟩) (cs := [(.int .i64 gw), (.int .i64 gi), (.int .i64 gb)]) (by kernel_rfl) (cells_sub (hs3.heapAt 0 rfl) rfl)) ?_
  refine ops_call0 hs3 (by kernel_rfl) (place6_spec (gw := gw) (gi := gi) (gb := gb) (n_ := 0) B _) ?_
  rintro _ _ w6 ⟨rfl, rfl⟩ hs7
  have hs8 := St.ap0 hs7
  refine ops_run 1 (by kernel_rfl) ?_
  refine ops_done (by kernel_rfl) ?_
  refine hK5 _ _ ?_
  clear hK5
  refine W.ret ?_
  have hs9 := St.tk0 hs8
  refine ret_of (.int .i64 (placeOf 6 gw gi gb 0)) (by kernel_rfl) ⟨_, ⟨rfl, rfl⟩, hs9⟩

set_option maxRecDepth 20000 in
theorem lmap7_spec {gw gi gb : Int} (B : Nat) (w : World) : Spec Tryd.prog 123 #[(.agg #[(.int .i64 gw), (.int .i64 gi), (.int .i64 gb)])] B w [] (fun v H' => v = .int .i64 (placeOf 7 gw gi gb 0) ∧ H' = []) := by
  refine spec_Q Tryd.func123 rfl fun hs => ?_
  refine W.seq fun K1 hK1 => ?_
  refine W.region ?_
  refine ops_new (fun b => .pointer (some ⟨b, 0, none⟩)) (.cells [(.int .i64 gw), (.int .i64 gi), (.int .i64 gb)].toArray 63 (0, 0)) hs (by kernel_rfl) (fun b4 w2 hs3 => ?_)
  refine ops_run 1 (by kernel_rfl) ?_
  refine ops_done (by kernel_rfl) ?_
  refine hK1 _ _ ?_
  clear hK1
  refine W.seq fun K5 hK5 => ?_
  refine W.region ?_
  refine ops_R (runs_loadAgg (ad := ⟨b4, 0, none⟩) (cs := [(.int .i64 gw), (.int .i64 gi), (.int .i64 gb)]) (by kernel_rfl) (cells_sub (hs3.heapAt 0 rfl) rfl)) ?_
  refine ops_call0 hs3 (by kernel_rfl) (place7_spec (gw := gw) (gi := gi) (gb := gb) (n_ := 0) B _) ?_
  rintro _ _ w6 ⟨rfl, rfl⟩ hs7
  have hs8 := St.ap0 hs7
  refine ops_run 1 (by kernel_rfl) ?_
  refine ops_done (by kernel_rfl) ?_
  refine hK5 _ _ ?_
  clear hK5
  refine W.ret ?_
  have hs9 := St.tk0 hs8
  refine ret_of (.int .i64 (placeOf 7 gw gi gb 0)) (by kernel_rfl) ⟨_, ⟨rfl, rfl⟩, hs9⟩

set_option maxRecDepth 20000 in
theorem rblockat_spec {gw gi gb n_ : Int} (B : Nat) (w : World) : Spec Tryd.prog 120 #[(.agg #[(.int .i64 gw), (.int .i64 gi), (.int .i64 gb)]), (.int .i64 n_)] B w [] (fun v H' => v = .int .i64 (placeOf 9 gw gi gb n_) ∧ H' = []) := by
  refine spec_Q Tryd.func120 rfl fun hs => ?_
  refine W.seq fun K1 hK1 => ?_
  refine W.region ?_
  refine ops_new (fun b => .pointer (some ⟨b, 0, none⟩)) (.cells [(.int .i64 gw), (.int .i64 gi), (.int .i64 gb)].toArray 88 (0, 0)) hs (by kernel_rfl) (fun b4 w2 hs3 => ?_)
  refine ops_run 1 (by kernel_rfl) ?_
  refine ops_done (by kernel_rfl) ?_
  refine hK1 _ _ ?_
  clear hK1
  refine W.seq fun K5 hK5 => ?_
  refine W.seq fun K6 hK6 => ?_
  refine W.region ?_
  refine ops_R (runs_loadAgg (ad := ⟨b4, 0, none⟩) (cs := [(.int .i64 gw), (.int .i64 gi), (.int .i64 gb)]) (by kernel_rfl) (cells_sub (hs3.heapAt 0 rfl) rfl)) ?_
  refine ops_call0 hs3 (by kernel_rfl) (rmay_spec (gw := gw) (gi := gi) (gb := gb) B _) ?_
  rintro _ _ w7 ⟨rfl, rfl⟩ hs8
  have hs9 := St.ap0 hs8
  refine ops_run 2 (by kernel_rfl) ?_
  rcases Bool.eq_false_or_eq_true (!(decide (May gw gi gb))) with h10 | h10
  ·
    have h10p : ¬ (May gw gi gb) := of_decide_eq_false (bnot_true h10)
    refine ops_set 8 (v := .bool true) (eq_bool_of (by kernel_rfl) h10) ?_
    refine ops_set 7 (v := .bool true) (eq_bool_of (by kernel_rfl) h10) ?_
    refine ops_run 9 (by kernel_rfl) ?_
    refine ops_done (by kernel_rfl) ?_
    refine hK6 _ _ ?_
    clear hK6
    refine W.cond_true true (by kernel_rfl) rfl ?_
    refine W.seq fun K11 hK11 => ?_
    refine W.region ?_
    refine ops_run 1 (by kernel_rfl) ?_
    refine ops_done (by kernel_rfl) ?_
    refine hK11 _ _ ?_
    clear hK11
    refine W.ret (ret_seq ?_)
    have hs12 := St.tk0 hs9
    refine ret_of (.int .i64 (-1)) (by kernel_rfl) ⟨_, ⟨congrArg (Value.int .i64) (by by_cases hm : May gw gi gb <;> first | contradiction | (have hm_ : (1 ≤ gw ∧ gw ≤ 4) ∧ (2 ≤ gi ∧ gi ≤ 64) ∧ (2 ≤ gb ∧ gb ≤ 512) := hm; simp only [placeOf, if_pos hm]; split <;> omega) | (simp only [placeOf, if_neg hm]; done)), rfl⟩, hs12⟩
  ·
    have h10p : May gw gi gb := of_decide_eq_true (bnot_false h10)
    have hm : May gw gi gb := h10p
    have hm_ : (1 ≤ gw ∧ gw ≤ 4) ∧ (2 ≤ gi ∧ gi ≤ 64) ∧ (2 ≤ gb ∧ gb ≤ 512) := hm
    refine ops_set 8 (v := .bool false) (eq_bool_of (by kernel_rfl) h10) ?_
    refine ops_set 7 (v := .bool false) (eq_bool_of (by kernel_rfl) h10) ?_
    refine ops_run 4 (by kernel_rfl) ?_
    rcases Bool.eq_false_or_eq_true (decide (n_ < 0)) with h13 | h13
    ·
      have h13p : n_ < 0 := of_decide_eq_true h13
      refine ops_set 12 (v := .bool true) (eq_bool_of (by kernel_rfl) h13) ?_
      refine ops_set 10 (v := .bool true) (eq_bool_of (by kernel_rfl) h13) ?_
      refine ops_set 11 (v := .bool true) (eq_bool_of (by kernel_rfl) h13) ?_
      refine ops_run 5 (by kernel_rfl) ?_
      refine ops_done (by kernel_rfl) ?_
      refine hK6 _ _ ?_
      clear hK6
      refine W.cond_true true (by kernel_rfl) rfl ?_
      refine W.seq fun K14 hK14 => ?_
      refine W.region ?_
      refine ops_run 1 (by kernel_rfl) ?_
      refine ops_done (by kernel_rfl) ?_
      refine hK14 _ _ ?_
      clear hK14
      refine W.ret (ret_seq ?_)
      have hs15 := St.tk0 hs9
      refine ret_of (.int .i64 (-1)) (by kernel_rfl) ⟨_, ⟨congrArg (Value.int .i64) (by by_cases hm : May gw gi gb <;> first | contradiction | (have hm_ : (1 ≤ gw ∧ gw ≤ 4) ∧ (2 ≤ gi ∧ gi ≤ 64) ∧ (2 ≤ gb ∧ gb ≤ 512) := hm; simp only [placeOf, if_pos hm]; split <;> omega) | (simp only [placeOf, if_neg hm]; done)), rfl⟩, hs15⟩
    ·
      have h13p : ¬ (n_ < 0) := of_decide_eq_false h13
      refine ops_set 12 (v := .bool false) (eq_bool_of (by kernel_rfl) h13) ?_
      refine ops_set 10 (v := .bool false) (eq_bool_of (by kernel_rfl) h13) ?_
      refine ops_set 11 (v := .bool false) (eq_bool_of (by kernel_rfl) h13) ?_
      refine ops_run 2 (by kernel_rfl) ?_
      refine ops_R (runs_load (ad := ⟨b4, 2, none⟩) (v := (.int .i64 gb)) (by kernel_rfl) (hs9.cellAt 0 rfl rfl)) ?_
      refine ops_run 2 (by kernel_rfl) ?_
      refine ops_done (by kernel_rfl) ?_
      refine hK6 _ _ ?_
      clear hK6
      refine W.cond (decide (n_ ≥ gb)) (by kernel_rfl) (fun h16 => ?_) (fun h16 => ?_)
      ·
        have h16p : n_ ≥ gb := of_decide_eq_true h16
        refine W.seq fun K17 hK17 => ?_
        refine W.region ?_
        refine ops_run 1 (by kernel_rfl) ?_
        refine ops_done (by kernel_rfl) ?_
        refine hK17 _ _ ?_
        clear hK17
        refine W.ret (ret_seq ?_)
        have hs18 := St.tk0 hs9
        refine ret_of (.int .i64 (-1)) (by kernel_rfl) ⟨_, ⟨congrArg (Value.int .i64) (by by_cases hm : May gw gi gb <;> first | contradiction | (have hm_ : (1 ≤ gw ∧ gw ≤ 4) ∧ (2 ≤ gi ∧ gi ≤ 64) ∧ (2 ≤ gb ∧ gb ≤ 512) := hm; simp only [placeOf, if_pos hm]; split <;> omega) | (simp only [placeOf, if_neg hm]; done)), rfl⟩, hs18⟩
      ·
        have h16p : ¬ (n_ ≥ gb) := of_decide_eq_false h16
        refine W.skip ?_
        refine hK5 _ _ ?_
        clear hK5
        refine W.seq fun K19 hK19 => ?_
        have hs20 := hs9.drew
        refine W.regionD [(0, 0), (1, 1), (2, 2), (0, 0), (8, 8), (16, 16), (36, 36), (0, 0), (128, 128), (320, 320), (1023, 512)] (fun w_ => St B w [] w_ [blk b4 (.cells [(.int .i64 gw), (.int .i64 gi), (.int .i64 gb)].toArray 88 (0, 0))]) (by kernel_rfl) hs20 ?_
        refine any_R 0 (by kernel_rfl) (fun _ hS_ => runs_loadAgg (ad := ⟨b4, 0, none⟩) (cs := [(.int .i64 gw), (.int .i64 gi), (.int .i64 gb)]) (by kernel_rfl) (cells_sub (hS_.heapAt 0 rfl) rfl)) hs20 ?_
        refine any_val (v := (.pointer (some ⟨b4, 1, none⟩))) (v' := (.pointer (some ⟨b4, 1, none⟩))) 3 (by kernel_rfl) (fun _ => by kernel_rfl) rfl hs20 ?_
        refine any_R 4 (by kernel_rfl) (fun _ hS_ => runs_load (ad := ⟨b4, 1, none⟩) (v := (.int .i64 gi)) (by kernel_rfl) (hS_.cellAt 0 rfl rfl)) hs20 ?_
        refine any_val (v := .int .i64 (IntKind.i64.wrap (16 * gi))) (v' := .int .i64 (16 * gi)) 5 (by kernel_rfl) (fun _ => by kernel_rfl) (congrArg (Value.int .i64) (wrap_i64 (by omega) (by omega))) hs20 ?_
        refine any_val (v := (.int .i64 n_)) (v' := (.int .i64 n_)) 7 (by kernel_rfl) (fun _ => by kernel_rfl) rfl hs20 ?_
        refine any_val (v := .int .i64 (IntKind.i64.wrap (8 * n_))) (v' := .int .i64 (8 * n_)) 8 (by kernel_rfl) (fun _ => by kernel_rfl) (congrArg (Value.int .i64) (wrap_i64 (by omega) (by omega))) hs20 ?_
        refine any_step 1 (by kernel_rfl) (by kernel_rfl) ?_
        refine ops_call0 hs20 (by kernel_rfl) (maps_spec (hm := hm) (gw := gw) (gi := gi) (gb := gb) B _) ?_
        rintro _ _ w21 ⟨rfl, rfl⟩ hs22
        have hs23 := St.ap0 hs22
        refine ops_done (by kernel_rfl) ⟨hs23, ?_⟩
        refine any_val (v := .int .i64 (IntKind.i64.wrap ((264 + 208 * gw) + 16))) (v' := .int .i64 ((264 + 208 * gw) + 16)) 2 (by kernel_rfl) (fun _ => by kernel_rfl) (congrArg (Value.int .i64) (wrap_i64 (by omega) (by omega))) hs23 ?_
        refine any_val (v := .int .i64 (IntKind.i64.wrap (((264 + 208 * gw) + 16) + (16 * gi)))) (v' := .int .i64 (((264 + 208 * gw) + 16) + (16 * gi))) 6 (by kernel_rfl) (fun _ => by kernel_rfl) (congrArg (Value.int .i64) (wrap_i64 (by omega) (by omega))) hs23 ?_
        refine any_val (v := .int .i64 (IntKind.i64.wrap ((((264 + 208 * gw) + 16) + (16 * gi)) + (8 * n_)))) (v' := .int .i64 ((((264 + 208 * gw) + 16) + (16 * gi)) + (8 * n_))) 9 (by kernel_rfl) (fun _ => by kernel_rfl) (congrArg (Value.int .i64) (wrap_i64 (by omega) (by omega))) hs23 ?_
        refine any_val (v := (.int .i64 ((((264 + 208 * gw) + 16) + (16 * gi)) + (8 * n_)))) (v' := (.int .i64 ((((264 + 208 * gw) + 16) + (16 * gi)) + (8 * n_)))) 10 (by kernel_rfl) (fun _ => by kernel_rfl) rfl hs23 ?_
        refine any_done (by kernel_rfl) ?_
        refine hK19 _ _ ?_
        clear hK19
        refine W.ret ?_
        have hs24 := St.tk0 hs23
        refine ret_of (.int .i64 ((((264 + 208 * gw) + 16) + (16 * gi)) + (8 * n_))) (by kernel_rfl) ⟨_, ⟨congrArg (Value.int .i64) (by by_cases hm : May gw gi gb <;> first | contradiction | (have hm_ : (1 ≤ gw ∧ gw ≤ 4) ∧ (2 ≤ gi ∧ gi ≤ 64) ∧ (2 ≤ gb ∧ gb ≤ 512) := hm; simp only [placeOf, if_pos hm]; split <;> omega) | (simp only [placeOf, if_neg hm]; done)), rfl⟩, hs24⟩

end Go.Proofs.YthimamnblklkbaaDoor

/- Contracts of layer 7, by a program. -/
namespace Go.Proofs.YthimamnblklkbaaDoor
open Go Go.RowKit
set_option linter.unusedSimpArgs false
set_option linter.unusedVariables false

set_option maxRecDepth 20000 in
set_option maxHeartbeats 1000000 in
theorem lformat_spec {gw gi gb : Int} (B : Nat) (w : World) : Spec Tryd.prog 75 #[(.agg #[(.int .i64 gw), (.int .i64 gi), (.int .i64 gb)])] B w [] (fun v H' => ∃ a' c', v = .slice a' (fmtW gw gi gb).length c' ∧ H' = [kU64.row a' c' (fmtW gw gi gb)]) := by
  refine spec_Q Tryd.func75 rfl fun hs => ?_
  refine W.seq fun K1 hK1 => ?_
  refine W.region ?_
  refine ops_new (fun b => .pointer (some ⟨b, 0, none⟩)) (.cells [(.int .i64 gw), (.int .i64 gi), (.int .i64 gb)].toArray 63 (0, 0)) hs (by kernel_rfl) (fun b4 w2 hs3 => ?_)
  refine ops_run 1 (by kernel_rfl) ?_
  refine ops_done (by kernel_rfl) ?_
  refine hK1 _ _ ?_
  clear hK1
  refine W.seq fun K5 hK5 => ?_
  refine W.seq fun K6 hK6 => ?_
  refine W.region ?_
  refine ops_R (runs_loadAgg (ad := ⟨b4, 0, none⟩) (cs := [(.int .i64 gw), (.int .i64 gi), (.int .i64 gb)]) (by kernel_rfl) (cells_sub (hs3.heapAt 0 rfl) rfl)) ?_
  refine ops_call0 hs3 (by kernel_rfl) (may_spec (gw := gw) (gi := gi) (gb := gb) B _) ?_
  rintro _ _ w7 ⟨rfl, rfl⟩ hs8
  have hs9 := St.ap0 hs8
  refine ops_run 1 (by kernel_rfl) ?_
  refine ops_done (by kernel_rfl) ?_
  refine hK6 _ _ ?_
  clear hK6
  refine W.cond (!(decide (May gw gi gb))) (by kernel_rfl) (fun h10 => ?_) (fun h10 => ?_)
  ·
    have h10p : ¬ (May gw gi gb) := of_decide_eq_false (bnot_true h10)
    refine W.seq fun K11 hK11 => ?_
    refine W.region ?_
    refine ops_run 1 (by kernel_rfl) ?_
    refine ops_done (by kernel_rfl) ?_
    refine hK11 _ _ ?_
    clear hK11
    refine W.ret (ret_seq ?_)
    have hs12 := St.tk0 hs9
    have hk := St.knil kU64 hs12
    have e_ : fmtW gw gi gb = [] := if_neg (by assumption)
    refine ret_of (.slice none 0 0) (by kernel_rfl) ⟨_, ⟨none, 0, by rw [e_]; rfl, by rw [e_]⟩, hk⟩
  ·
    have h10p : May gw gi gb := of_decide_eq_true (bnot_false h10)
    have hm : May gw gi gb := h10p
    have hm_ : (1 ≤ gw ∧ gw ≤ 4) ∧ (2 ≤ gi ∧ gi ≤ 64) ∧ (2 ≤ gb ∧ gb ≤ 512) := hm
    have hwd := words_may hm
    have hp6 := place6 hm
    have hp7 := place7 hm
    have hp8 := place8_in (n := 1) hm (by omega)
    refine W.skip ?_
    refine hK5 _ _ ?_
    clear hK5
    refine W.seq fun K13 hK13 => ?_
    refine W.region ?_
    refine ops_R (runs_loadAgg (ad := ⟨b4, 0, none⟩) (cs := [(.int .i64 gw), (.int .i64 gi), (.int .i64 gb)]) (by kernel_rfl) (cells_sub (hs9.heapAt 0 rfl) rfl)) ?_
    refine ops_call0 hs9 (by kernel_rfl) (lwords_spec (gw := gw) (gi := gi) (gb := gb) B _) ?_
    rintro _ _ w14 ⟨rfl, rfl⟩ hs15
    have hs16 := St.ap0 hs15
    refine ops_makeSlice kU64 0 (z := (wordsOf gw gi gb)) (bytes := 8) ((wordsOf gw gi gb).toNat) (nat_of (by omega)) hs16 (by kernel_rfl) (by omega) (by unfold maxLen; omega) (fun b17 w18 hs19 => ?_)
    refine ops_run 1 (by kernel_rfl) ?_
    refine ops_done (by kernel_rfl) ?_
    refine hK13 _ _ ?_
    clear hK13
    refine W.seq fun K20 hK20 => ?_
    refine W.region ?_
    refine ops_run 2 (by kernel_rfl) ?_
    refine ops_R (runs_load (ad := ⟨b4, 0, none⟩) (v := (.int .i64 gw)) (by kernel_rfl) (hs19.cellAt 1 rfl rfl)) ?_
    have h21 : 0 ≤ gw ∧ gw ≤ 18446744073709551615 := by first | omega | (simp only [List.length_set, List.length_replicate] at *; omega)
    refine ops_val (v := .int .u64 (IntKind.u64.wrap gw)) (v' := .int .u64 gw) (by kernel_rfl) (congrArg (Value.int .u64) (wrap_u64 h21.1 (Int.lt_of_le_of_lt h21.2 (by decide)))) ?_
    refine ops_run 1 (by kernel_rfl) ?_
    refine ops_R (runs_load (ad := ⟨b4, 1, none⟩) (v := (.int .i64 gi)) (by kernel_rfl) (hs19.cellAt 1 rfl rfl)) ?_
    have h22 : 0 ≤ gi ∧ gi ≤ 18446744073709551615 := by first | omega | (simp only [List.length_set, List.length_replicate] at *; omega)
    refine ops_val (v := .int .u64 (IntKind.u64.wrap gi)) (v' := .int .u64 gi) (by kernel_rfl) (congrArg (Value.int .u64) (wrap_u64 h22.1 (Int.lt_of_le_of_lt h22.2 (by decide)))) ?_
    refine ops_run 1 (by kernel_rfl) ?_
    refine ops_R (runs_load (ad := ⟨b4, 2, none⟩) (v := (.int .i64 gb)) (by kernel_rfl) (hs19.cellAt 1 rfl rfl)) ?_
    have h23 : 0 ≤ gb ∧ gb ≤ 18446744073709551615 := by first | omega | (simp only [List.length_set, List.length_replicate] at *; omega)
    refine ops_val (v := .int .u64 (IntKind.u64.wrap gb)) (v' := .int .u64 gb) (by kernel_rfl) (congrArg (Value.int .u64) (wrap_u64 h23.1 (Int.lt_of_le_of_lt h23.2 (by decide)))) ?_
    refine ops_new (fun b => .slice (some ⟨b, 0, none⟩) 4 4) (.cells [(.int .u64 32762617960297063), (.int .u64 gw), (.int .u64 gi), (.int .u64 gb)].toArray 38 (0, 0)) hs19 (by kernel_rfl) (fun b26 w24 hs25 => ?_)
    have hs27 := St.f1 hs25
    have h31 : 0 + 4 ≤ (List.replicate ((wordsOf gw gi gb).toNat) (0 : Int)).length := by simp only [List.length_set, List.length_replicate]; omega
    refine ops_copyK kU64 0 (k := 0) (xs := (List.replicate ((wordsOf gw gi gb).toNat) (0 : Int))) (ys := [32762617960297063, gw, gi, gb]) (n1 := (wordsOf gw gi gb).toNat) (c := (wordsOf gw gi gb).toNat) (c1 := (wordsOf gw gi gb).toNat) (c' := 4) hs27 (by kernel_rfl) (by simp only [List.length_cons, List.length_nil]; omega) (by simp) (cells_blk (hs27.heapAt 1 rfl)) h31 (fun w28 hs29 => ?_)
    have hs30 : St B w [] w28 [kU64.row (some ⟨b17, 0, none⟩) ((wordsOf gw gi gb).toNat) (((((List.replicate ((wordsOf gw gi gb).toNat) (0 : Int)).set 0 32762617960297063).set 1 gw).set 2 gi).set 3 gb), blk b26 (.cells [(.int .u64 32762617960297063), (.int .u64 gw), (.int .u64 gi), (.int .u64 gb)].toArray 38 (0, 0)), blk b4 (.cells [(.int .i64 gw), (.int .i64 gi), (.int .i64 gb)].toArray 63 (0, 0))] := hs29
    refine ops_done (by kernel_rfl) ?_
    refine hK20 _ _ ?_
    clear hK20
    refine W.seq fun K33 hK33 => ?_
    refine W.region ?_
    refine ops_run 1 (by kernel_rfl) ?_
    refine ops_R (runs_loadAgg (ad := ⟨b4, 0, none⟩) (cs := [(.int .i64 gw), (.int .i64 gi), (.int .i64 gb)]) (by kernel_rfl) (cells_sub (hs30.heapAt 2 rfl) rfl)) ?_
    refine ops_call0 hs30 (by kernel_rfl) (lmap6_spec (gw := gw) (gi := gi) (gb := gb) B _) ?_
    rintro _ _ w34 ⟨rfl, rfl⟩ hs35
    have hs36 := St.ap0 hs35
    have h38 : 0 ≤ (placeOf 6 gw gi gb 0) ∧ (placeOf 6 gw gi gb 0) < (((wordsOf gw gi gb).toNat) : Int) := by first | omega | (simp only [List.length_set, List.length_replicate] at *; omega)
    have hk37 := lt_toNat h38
    have h40 : (placeOf 6 gw gi gb 0).toNat < (((((List.replicate ((wordsOf gw gi gb).toNat) (0 : Int)).set 0 32762617960297063).set 1 gw).set 2 gi).set 3 gb).length := by first | omega | (simp only [List.length_set, List.length_replicate] at *; omega)
    have hk39 := h40
    refine ops_R (runs_index (a := (some ⟨b17, 0, none⟩)) (n := (wordsOf gw gi gb).toNat) (z := (placeOf 6 gw gi gb 0)) (size := 1) ((placeOf 6 gw gi gb 0).toNat) (nat_of h38.1) hk37 (kU64.addr (St.kcells kU64 hs36 0 rfl) hk39) (by kernel_rfl)) ?_
    refine ops_storeK kU64 (j := 0) (vs := [(.int .u64 3)]) 0 3 hs36 hk39 (Nat.le_of_ble_eq_true rfl) (by simp) rfl rfl (by kernel_rfl) (fun w41 hs42 => ?_)
    refine ops_done (by kernel_rfl) ?_
    refine hK33 _ _ ?_
    clear hK33
    refine W.seq fun K44 hK44 => ?_
    refine W.region ?_
    refine ops_run 1 (by kernel_rfl) ?_
    refine ops_R (runs_loadAgg (ad := ⟨b4, 0, none⟩) (cs := [(.int .i64 gw), (.int .i64 gi), (.int .i64 gb)]) (by kernel_rfl) (cells_sub (hs42.heapAt 2 rfl) rfl)) ?_
    refine ops_call0 hs42 (by kernel_rfl) (lmap7_spec (gw := gw) (gi := gi) (gb := gb) B _) ?_
    rintro _ _ w45 ⟨rfl, rfl⟩ hs46
    have hs47 := St.ap0 hs46
    have h49 : 0 ≤ (placeOf 7 gw gi gb 0) ∧ (placeOf 7 gw gi gb 0) < (((wordsOf gw gi gb).toNat) : Int) := by first | omega | (simp only [List.length_set, List.length_replicate] at *; omega)
    have hk48 := lt_toNat h49
    have h51 : (placeOf 7 gw gi gb 0).toNat < ((((((List.replicate ((wordsOf gw gi gb).toNat) (0 : Int)).set 0 32762617960297063).set 1 gw).set 2 gi).set 3 gb).set ((placeOf 6 gw gi gb 0).toNat) 3).length := by first | omega | (simp only [List.length_set, List.length_replicate] at *; omega)
    have hk50 := h51
    refine ops_R (runs_index (a := (some ⟨b17, 0, none⟩)) (n := (wordsOf gw gi gb).toNat) (z := (placeOf 7 gw gi gb 0)) (size := 1) ((placeOf 7 gw gi gb 0).toNat) (nat_of h49.1) hk48 (kU64.addr (St.kcells kU64 hs47 0 rfl) hk50) (by kernel_rfl)) ?_
    refine ops_storeK kU64 (j := 0) (vs := [(.int .u64 1)]) 0 1 hs47 hk50 (Nat.le_of_ble_eq_true rfl) (by simp) rfl rfl (by kernel_rfl) (fun w52 hs53 => ?_)
    refine ops_done (by kernel_rfl) ?_
    refine hK44 _ _ ?_
    clear hK44
    refine W.seq fun K55 hK55 => ?_
    refine W.region ?_
    refine ops_run 1 (by kernel_rfl) ?_
    refine ops_R (runs_loadAgg (ad := ⟨b4, 0, none⟩) (cs := [(.int .i64 gw), (.int .i64 gi), (.int .i64 gb)]) (by kernel_rfl) (cells_sub (hs53.heapAt 2 rfl) rfl)) ?_
    refine ops_call0 hs53 (by kernel_rfl) (inodeat_spec (gw := gw) (gi := gi) (gb := gb) (n_ := 1) B _) ?_
    rintro _ _ w56 ⟨rfl, rfl⟩ hs57
    have hs58 := St.ap0 hs57
    have hc59 := St.kcap kU64 hs58 0 rfl
    have h60 : 0 ≤ (placeOf 8 gw gi gb 1) ∧ (placeOf 8 gw gi gb 1) < (((wordsOf gw gi gb).toNat) : Int) := by first | omega | (simp only [List.length_set, List.length_replicate] at *; omega)
    have h61 : (wordsOf gw gi gb).toNat ≤ (wordsOf gw gi gb).toNat := by first | omega | (simp only [List.length_set, List.length_replicate] at *; omega)
    refine ops_R (runs_suffix (a := (some ⟨b17, 0, none⟩)) (n := (wordsOf gw gi gb).toNat) (c := (wordsOf gw gi gb).toNat) (z := (placeOf 8 gw gi gb 1)) (size := 1) ((placeOf 8 gw gi gb 1).toNat) (nat_of h60.1) (by omega) (by omega) (by omega) ⟨_, rfl⟩ (by kernel_rfl)) ?_
    refine ops_new (fun b => .slice (some ⟨b, 0, none⟩) 2 2) (.cells [(.int .u64 2), (.int .u64 1)].toArray 38 (0, 0)) hs58 (by kernel_rfl) (fun b64 w62 hs63 => ?_)
    have hs65 := St.f1 hs63
    have h69 : (placeOf 8 gw gi gb 1).toNat + 2 ≤ (((((((List.replicate ((wordsOf gw gi gb).toNat) (0 : Int)).set 0 32762617960297063).set 1 gw).set 2 gi).set 3 gb).set ((placeOf 6 gw gi gb 0).toNat) 3).set ((placeOf 7 gw gi gb 0).toNat) 1).length := by simp only [List.length_set, List.length_replicate]; omega
    refine ops_copyK kU64 0 (k := ((placeOf 8 gw gi gb 1).toNat)) (xs := (((((((List.replicate ((wordsOf gw gi gb).toNat) (0 : Int)).set 0 32762617960297063).set 1 gw).set 2 gi).set 3 gb).set ((placeOf 6 gw gi gb 0).toNat) 3).set ((placeOf 7 gw gi gb 0).toNat) 1)) (ys := [2, 1]) (n1 := ((wordsOf gw gi gb).toNat - ((placeOf 8 gw gi gb 1).toNat))) (c := (wordsOf gw gi gb).toNat) (c1 := ((wordsOf gw gi gb).toNat - ((placeOf 8 gw gi gb 1).toNat))) (c' := 2) hs65 (by kernel_rfl) (by simp only [List.length_cons, List.length_nil]; omega) (by simp) (cells_blk (hs65.heapAt 1 rfl)) h69 (fun w66 hs67 => ?_)
    have hs68 : St B w [] w66 [kU64.row (some ⟨b17, 0, none⟩) ((wordsOf gw gi gb).toNat) (((((((((List.replicate ((wordsOf gw gi gb).toNat) (0 : Int)).set 0 32762617960297063).set 1 gw).set 2 gi).set 3 gb).set ((placeOf 6 gw gi gb 0).toNat) 3).set ((placeOf 7 gw gi gb 0).toNat) 1).set ((placeOf 8 gw gi gb 1).toNat) 2).set ((placeOf 8 gw gi gb 1).toNat + 1) 1), blk b64 (.cells [(.int .u64 2), (.int .u64 1)].toArray 38 (0, 0)), blk b26 (.cells [(.int .u64 32762617960297063), (.int .u64 gw), (.int .u64 gi), (.int .u64 gb)].toArray 38 (0, 0)), blk b4 (.cells [(.int .i64 gw), (.int .i64 gi), (.int .i64 gb)].toArray 63 (0, 0))] := hs67
    refine ops_done (by kernel_rfl) ?_
    refine hK55 _ _ ?_
    clear hK55
    refine W.seq fun K71 hK71 => ?_
    refine W.region ?_
    refine ops_run 2 (by kernel_rfl) ?_
    refine ops_done (by kernel_rfl) ?_
    refine hK71 _ _ ?_
    clear hK71
    refine W.ret ?_
    have hs72 := St.tk1 hs68
    have e8_ : (placeOf 8 gw gi gb 1).toNat + 1 = (placeOf 8 gw gi gb 1 + 1).toNat := by omega
    have e_ : (((((((((List.replicate ((wordsOf gw gi gb).toNat) (0 : Int)).set 0 32762617960297063).set 1 gw).set 2 gi).set 3 gb).set ((placeOf 6 gw gi gb 0).toNat) 3).set ((placeOf 7 gw gi gb 0).toNat) 1).set ((placeOf 8 gw gi gb 1).toNat) 2).set ((placeOf 8 gw gi gb 1).toNat + 1) 1) = fmtW gw gi gb := by rw [e8_]; exact (if_pos hm).symm
    have hs_ := hs72
    rw [e_] at hs_
    refine ret_of (.slice (some ⟨b17, 0, none⟩) ((wordsOf gw gi gb).toNat) ((wordsOf gw gi gb).toNat)) (by kernel_rfl) ⟨_, ⟨(some ⟨b17, 0, none⟩), (wordsOf gw gi gb).toNat, by rw [fmtW_len], rfl⟩, hs_⟩

end Go.Proofs.YthimamnblklkbaaDoor

/- Contracts of layer 7, by a program. -/
namespace Go.Proofs.YthimamnblklkbaaDoor
open Go Go.RowKit
set_option linter.unusedSimpArgs false
set_option linter.unusedVariables false

set_option maxRecDepth 20000 in
theorem anew_ok {vb : Nat} {img : List Int} {l : List (Int × Int)} {gw gi gb : Int} (B : Nat) (w : World) (hv : ViewAt (ptr vb) img l w) (hz : (img.length : Int) ≤ 1000000000000) (hP : May gw gi gb ∧ wordsOf gw gi gb ≤ (img.length : Int)) : Spec Tryd.prog 55 #[(.pointer (some ⟨vb, 0, none⟩)), (.agg #[(.int .i64 gw), (.int .i64 gi), (.int .i64 gb)])] B w [] (fun v H' => ∃ ab ib bb, v = .tuple #[ptr ab, .int .i64 0] ∧ H' = [blk ab (.cells [(.pointer (some ⟨vb, 0, none⟩)), (.int .i64 gw), (.int .i64 gi), (.int .i64 gb), (.pointer (some ⟨ib, 0, none⟩)), (.int .i64 gi), (.pointer (some ⟨bb, 0, none⟩)), (.int .i64 gb)].toArray 188 (0, 0)), blk ib (.cells [(.pointer (some ⟨vb, 0, none⟩)), (.int .i64 (placeOf 6 gw gi gb 0)), (.int .i64 gi)].toArray 151 (0, 0)), blk bb (.cells [(.pointer (some ⟨vb, 0, none⟩)), (.int .i64 (placeOf 7 gw gi gb 0)), (.int .i64 gb)].toArray 151 (0, 0))]) := by
  refine spec_Q Tryd.func55 rfl fun hs => ?_
  have hm : May gw gi gb := hP.1
  have hl := hP.2
  have hm_ : (1 ≤ gw ∧ gw ≤ 4) ∧ (2 ≤ gi ∧ gi ≤ 64) ∧ (2 ≤ gb ∧ gb ≤ 512) := hm
  have hwd := words_may hm
  have hp6 := place6 hm
  have hp7 := place7 hm
  refine W.seq fun K1 hK1 => ?_
  refine W.region ?_
  refine ops_new (fun b => .pointer (some ⟨b, 0, none⟩)) (.cells [(.int .i64 gw), (.int .i64 gi), (.int .i64 gb)].toArray 63 (0, 0)) hs (by kernel_rfl) (fun b4 w2 hs3 => ?_)
  refine ops_run 2 (by kernel_rfl) ?_
  refine ops_done (by kernel_rfl) ?_
  refine hK1 _ _ ?_
  clear hK1
  refine W.seq fun K5 hK5 => ?_
  refine W.block ?_
  refine W.seq fun K6 hK6 => ?_
  refine W.region ?_
  refine ops_run 3 (by kernel_rfl) ?_
  refine ops_done (by kernel_rfl) ?_
  refine hK6 _ _ ?_
  clear hK6
  refine W.cond_false false (by kernel_rfl) rfl ?_
  refine W.seq fun K7 hK7 => ?_
  refine W.region ?_
  refine ops_R (runs_loadAgg (ad := ⟨b4, 0, none⟩) (cs := [(.int .i64 gw), (.int .i64 gi), (.int .i64 gb)]) (by kernel_rfl) (cells_sub (hs3.heapAt 0 rfl) rfl)) ?_
  refine ops_call0 hs3 (by kernel_rfl) (may_spec (gw := gw) (gi := gi) (gb := gb) B _) ?_
  rintro _ _ w8 ⟨rfl, rfl⟩ hs9
  have hs10 := St.ap0 hs9
  refine ops_run 2 (by kernel_rfl) ?_
  refine ops_done (by kernel_rfl) ?_
  refine hK7 _ _ ?_
  clear hK7
  refine W.cond (!(decide (May gw gi gb))) (by kernel_rfl) (fun h11 => ?_) (fun h11 => ?_)
  ·
    have h11p : ¬ (May gw gi gb) := of_decide_eq_false (bnot_true h11)
    refine W.seq fun K12 hK12 => ?_
    refine W.region ?_
    refine ops_run 2 (by kernel_rfl) ?_
    refine ops_done (by kernel_rfl) ?_
    refine hK12 _ _ ?_
    clear hK12
    refine W.ret (ret_block (ret_seq ?_))
    exfalso
    first | omega | (exact absurd hm (by assumption))
  ·
    have h11p : May gw gi gb := of_decide_eq_true (bnot_false h11)
    refine W.seq fun K13 hK13 => ?_
    have hs14 := hs10.drew
    refine W.regionD [(0, 0), (1, 1), (0, 0), (6, 4), (10, 10), (24, 16)] (fun w_ => St B w [] w_ [blk b4 (.cells [(.int .i64 gw), (.int .i64 gi), (.int .i64 gb)].toArray 63 (0, 0))]) (by kernel_rfl) hs14 ?_
    refine any_val (v := (.pointer (some ⟨vb, 0, none⟩))) (v' := (.pointer (some ⟨vb, 0, none⟩))) 0 (by kernel_rfl) (fun _ => by kernel_rfl) rfl hs14 ?_
    refine any_R 2 (by kernel_rfl) (fun _ hS_ => runs_loadAgg (ad := ⟨b4, 0, none⟩) (cs := [(.int .i64 gw), (.int .i64 gi), (.int .i64 gb)]) (by kernel_rfl) (cells_sub (hS_.heapAt 0 rfl) rfl)) hs14 ?_
    refine any_step 1 (by kernel_rfl) (by kernel_rfl) ?_
    refine ops_call0 hs14 (by kernel_rfl) (len_spec (hv := (viewAt_old hs14 hv)) B _) ?_
    rintro _ _ w15 ⟨rfl, rfl⟩ hs16
    have hs17 := St.ap0 hs16
    refine ops_done (by kernel_rfl) ⟨hs17, ?_⟩
    refine any_step 3 (by kernel_rfl) (by kernel_rfl) ?_
    refine ops_call0 hs17 (by kernel_rfl) (lwords_spec (gw := gw) (gi := gi) (gb := gb) B _) ?_
    rintro _ _ w18 ⟨rfl, rfl⟩ hs19
    have hs20 := St.ap0 hs19
    refine ops_done (by kernel_rfl) ⟨hs20, ?_⟩
    refine any_val (v := (.bool (decide ((img.length : Int) < (wordsOf gw gi gb))))) (v' := (.bool (decide ((img.length : Int) < (wordsOf gw gi gb))))) 4 (by kernel_rfl) (fun _ => by kernel_rfl) rfl hs20 ?_
    refine any_val (v := (.bool (decide ((img.length : Int) < (wordsOf gw gi gb))))) (v' := (.bool (decide ((img.length : Int) < (wordsOf gw gi gb))))) 5 (by kernel_rfl) (fun _ => by kernel_rfl) rfl hs20 ?_
    refine any_done (by kernel_rfl) ?_
    refine hK13 _ _ ?_
    clear hK13
    refine W.cond (decide ((img.length : Int) < (wordsOf gw gi gb))) (by kernel_rfl) (fun h21 => ?_) (fun h21 => ?_)
    ·
      have h21p : (img.length : Int) < (wordsOf gw gi gb) := of_decide_eq_true h21
      refine W.seq fun K22 hK22 => ?_
      refine W.region ?_
      refine ops_run 2 (by kernel_rfl) ?_
      refine ops_done (by kernel_rfl) ?_
      refine hK22 _ _ ?_
      clear hK22
      refine W.ret (ret_block (ret_seq ?_))
      exfalso
      first | omega | (exact absurd hm (by assumption))
    ·
      have h21p : ¬ ((img.length : Int) < (wordsOf gw gi gb)) := of_decide_eq_false h21
      refine W.skip ?_
      refine normal_block ?_
      refine hK5 _ _ ?_
      clear hK5
      refine W.seq fun K23 hK23 => ?_
      have hs24 := hs20.drew
      refine W.regionD [(0, 0), (0, 0), (2, 2), (0, 0), (8, 8), (21, 21), (32, 32), (64, 64), (64, 64), (255, 128), (1023, 256)] (fun w_ => St B w [] w_ [blk b4 (.cells [(.int .i64 gw), (.int .i64 gi), (.int .i64 gb)].toArray 63 (0, 0))]) (by kernel_rfl) hs24 ?_
      refine any_val (v := (.pointer (some ⟨vb, 0, none⟩))) (v' := (.pointer (some ⟨vb, 0, none⟩))) 0 (by kernel_rfl) (fun _ => by kernel_rfl) rfl hs24 ?_
      refine any_R 1 (by kernel_rfl) (fun _ hS_ => runs_loadAgg (ad := ⟨b4, 0, none⟩) (cs := [(.int .i64 gw), (.int .i64 gi), (.int .i64 gb)]) (by kernel_rfl) (cells_sub (hS_.heapAt 0 rfl) rfl)) hs24 ?_
      refine any_val (v := (.pointer (some ⟨b4, 1, none⟩))) (v' := (.pointer (some ⟨b4, 1, none⟩))) 3 (by kernel_rfl) (fun _ => by kernel_rfl) rfl hs24 ?_
      refine any_R 4 (by kernel_rfl) (fun _ hS_ => runs_load (ad := ⟨b4, 1, none⟩) (v := (.int .i64 gi)) (by kernel_rfl) (hS_.cellAt 0 rfl rfl)) hs24 ?_
      refine any_step 2 (by kernel_rfl) (by kernel_rfl) ?_
      refine ops_call0 hs24 (by kernel_rfl) (lmap6_spec (gw := gw) (gi := gi) (gb := gb) B _) ?_
      rintro _ _ w25 ⟨rfl, rfl⟩ hs26
      have hs27 := St.ap0 hs26
      refine ops_done (by kernel_rfl) ⟨hs27, ?_⟩
      refine any_step 5 (by kernel_rfl) (by kernel_rfl) ?_
      have h28 : (img.length : Int) ≤ 1000000000000 := by first | omega | (exact absurd hm (by assumption))
      have h29 : (0 ≤ ((placeOf 6 gw gi gb 0) : Int) ∧ ((placeOf 6 gw gi gb 0) : Int) < (img.length : Int)) ∧ (1 ≤ (gi : Int) ∧ (gi : Int) ≤ 1000000000000) ∧ ((gi : Int) - 1) / 64 < (img.length : Int) - ((placeOf 6 gw gi gb 0) : Int) := by first | omega | (exact absurd hm (by assumption))
      refine ops_call0 hs27 (by kernel_rfl) (of_ok (hv := (viewAt_old hs27 hv)) (hz := h28) (ho := h29) B _) ?_
      rintro _ _ w31 ⟨b30, rfl, rfl⟩ hs32
      have hs33 := St.ap1 hs32
      have hs34 := St.f1 hs33
      have hs35 := St.tk1 hs34
      refine ops_done (by kernel_rfl) ⟨hs35, ?_⟩
      refine any_val (v := (.tuple #[(.pointer (some ⟨b30, 0, none⟩)), (.int .i64 0)])) (v' := (.tuple #[(.pointer (some ⟨b30, 0, none⟩)), (.int .i64 0)])) 6 (by kernel_rfl) (fun _ => by kernel_rfl) rfl hs35 ?_
      refine any_val (v := (.pointer (some ⟨b30, 0, none⟩))) (v' := (.pointer (some ⟨b30, 0, none⟩))) 7 (by kernel_rfl) (fun _ => by kernel_rfl) rfl hs35 ?_
      refine any_val (v := (.int .i64 0)) (v' := (.int .i64 0)) 8 (by kernel_rfl) (fun _ => by kernel_rfl) rfl hs35 ?_
      refine any_val (v := (.pointer (some ⟨b30, 0, none⟩))) (v' := (.pointer (some ⟨b30, 0, none⟩))) 9 (by kernel_rfl) (fun _ => by kernel_rfl) rfl hs35 ?_
      refine any_val (v := (.int .i64 0)) (v' := (.int .i64 0)) 10 (by kernel_rfl) (fun _ => by kernel_rfl) rfl hs35 ?_
      refine any_done (by kernel_rfl) ?_
      refine hK23 _ _ ?_
      clear hK23
      refine W.seq fun K36 hK36 => ?_
      refine W.seq fun K37 hK37 => ?_
      refine W.region ?_
      refine ops_run 2 (by kernel_rfl) ?_
      refine ops_done (by kernel_rfl) ?_
      refine hK37 _ _ ?_
      clear hK37
      refine W.cond_false false (by kernel_rfl) rfl ?_
      refine W.skip ?_
      refine hK36 _ _ ?_
      clear hK36
      refine W.seq fun K38 hK38 => ?_
      have hs39 := hs33.drew
      refine W.regionD [(0, 0), (0, 0), (2, 2), (0, 0), (8, 8), (21, 21), (32, 32), (64, 64), (64, 64), (255, 128), (1023, 256)] (fun w_ => St B w [] w_ [blk b30 (.cells [(.pointer (some ⟨vb, 0, none⟩)), (.int .i64 (placeOf 6 gw gi gb 0)), (.int .i64 gi)].toArray 151 (0, 0)), blk b4 (.cells [(.int .i64 gw), (.int .i64 gi), (.int .i64 gb)].toArray 63 (0, 0))]) (by kernel_rfl) hs39 ?_
      refine any_val (v := (.pointer (some ⟨vb, 0, none⟩))) (v' := (.pointer (some ⟨vb, 0, none⟩))) 0 (by kernel_rfl) (fun _ => by kernel_rfl) rfl hs39 ?_
      refine any_R 1 (by kernel_rfl) (fun _ hS_ => runs_loadAgg (ad := ⟨b4, 0, none⟩) (cs := [(.int .i64 gw), (.int .i64 gi), (.int .i64 gb)]) (by kernel_rfl) (cells_sub (hS_.heapAt 1 rfl) rfl)) hs39 ?_
      refine any_val (v := (.pointer (some ⟨b4, 2, none⟩))) (v' := (.pointer (some ⟨b4, 2, none⟩))) 3 (by kernel_rfl) (fun _ => by kernel_rfl) rfl hs39 ?_
      refine any_R 4 (by kernel_rfl) (fun _ hS_ => runs_load (ad := ⟨b4, 2, none⟩) (v := (.int .i64 gb)) (by kernel_rfl) (hS_.cellAt 1 rfl rfl)) hs39 ?_
      refine any_step 2 (by kernel_rfl) (by kernel_rfl) ?_
      refine ops_call0 hs39 (by kernel_rfl) (lmap7_spec (gw := gw) (gi := gi) (gb := gb) B _) ?_
      rintro _ _ w40 ⟨rfl, rfl⟩ hs41
      have hs42 := St.ap0 hs41
      refine ops_done (by kernel_rfl) ⟨hs42, ?_⟩
      refine any_step 5 (by kernel_rfl) (by kernel_rfl) ?_
      have h43 : (img.length : Int) ≤ 1000000000000 := by first | omega | (exact absurd hm (by assumption))
      have h44 : (0 ≤ ((placeOf 7 gw gi gb 0) : Int) ∧ ((placeOf 7 gw gi gb 0) : Int) < (img.length : Int)) ∧ (1 ≤ (gb : Int) ∧ (gb : Int) ≤ 1000000000000) ∧ ((gb : Int) - 1) / 64 < (img.length : Int) - ((placeOf 7 gw gi gb 0) : Int) := by first | omega | (exact absurd hm (by assumption))
      refine ops_call0 hs42 (by kernel_rfl) (of_ok (hv := (viewAt_old hs42 hv)) (hz := h43) (ho := h44) B _) ?_
      rintro _ _ w46 ⟨b45, rfl, rfl⟩ hs47
      have hs48 := St.ap1 hs47
      have hs49 := St.f2 hs48
      have hs50 := St.f2 hs49
      have hs51 := St.tk2 hs50
      refine ops_done (by kernel_rfl) ⟨hs51, ?_⟩
      refine any_val (v := (.tuple #[(.pointer (some ⟨b45, 0, none⟩)), (.int .i64 0)])) (v' := (.tuple #[(.pointer (some ⟨b45, 0, none⟩)), (.int .i64 0)])) 6 (by kernel_rfl) (fun _ => by kernel_rfl) rfl hs51 ?_
      refine any_val (v := (.pointer (some ⟨b45, 0, none⟩))) (v' := (.pointer (some ⟨b45, 0, none⟩))) 7 (by kernel_rfl) (fun _ => by kernel_rfl) rfl hs51 ?_
      refine any_val (v := (.int .i64 0)) (v' := (.int .i64 0)) 8 (by kernel_rfl) (fun _ => by kernel_rfl) rfl hs51 ?_
      refine any_val (v := (.pointer (some ⟨b45, 0, none⟩))) (v' := (.pointer (some ⟨b45, 0, none⟩))) 9 (by kernel_rfl) (fun _ => by kernel_rfl) rfl hs51 ?_
      refine any_val (v := (.int .i64 0)) (v' := (.int .i64 0)) 10 (by kernel_rfl) (fun _ => by kernel_rfl) rfl hs51 ?_
      refine any_done (by kernel_rfl) ?_
      refine hK38 _ _ ?_
      clear hK38
      refine W.seq fun K52 hK52 => ?_
      refine W.seq fun K53 hK53 => ?_
      refine W.region ?_
      refine ops_run 2 (by kernel_rfl) ?_
      refine ops_done (by kernel_rfl) ?_
      refine hK53 _ _ ?_
      clear hK53
      refine W.cond_false false (by kernel_rfl) rfl ?_
      refine W.skip ?_
      refine hK52 _ _ ?_
      clear hK52
      refine W.seq fun K54 hK54 => ?_
      refine W.region ?_
      refine ops_run 1 (by kernel_rfl) ?_
      refine ops_R (runs_loadAgg (ad := ⟨b4, 0, none⟩) (cs := [(.int .i64 gw), (.int .i64 gi), (.int .i64 gb)]) (by kernel_rfl) (cells_sub (hs48.heapAt 2 rfl) rfl)) ?_
      refine ops_run 2 (by kernel_rfl) ?_
      refine ops_R (runs_load (ad := ⟨b4, 1, none⟩) (v := (.int .i64 gi)) (by kernel_rfl) (hs48.cellAt 2 rfl rfl)) ?_
      refine ops_run 3 (by kernel_rfl) ?_
      refine ops_R (runs_load (ad := ⟨b4, 2, none⟩) (v := (.int .i64 gb)) (by kernel_rfl) (hs48.cellAt 2 rfl rfl)) ?_
      refine ops_run 2 (by kernel_rfl) ?_
      refine ops_new (fun b => .pointer (some ⟨b, 0, none⟩)) (.cells [(.pointer (some ⟨vb, 0, none⟩)), (.int .i64 gw), (.int .i64 gi), (.int .i64 gb), (.pointer (some ⟨b30, 0, none⟩)), (.int .i64 gi), (.pointer (some ⟨b45, 0, none⟩)), (.int .i64 gb)].toArray 188 (0, 0)) hs48 (by kernel_rfl) (fun b57 w55 hs56 => ?_)
      refine ops_run 2 (by kernel_rfl) ?_
      refine ops_done (by kernel_rfl) ?_
      refine hK54 _ _ ?_
      clear hK54
      refine W.ret ?_
      have hs58 := St.f1 hs56
      have hs59 := St.f2 hs58
      have hs60 := St.f2 hs59
      have hs61 := St.tk3 hs60
      refine ret_of (.tuple #[(.pointer (some ⟨b57, 0, none⟩)), (.int .i64 0)]) (by kernel_rfl) ⟨_, ⟨b57, b30, b45, rfl, rfl⟩, hs61⟩

set_option maxRecDepth 20000 in
theorem anew_err {vb : Nat} {img : List Int} {l : List (Int × Int)} {gw gi gb : Int} (B : Nat) (w : World) (hv : ViewAt (ptr vb) img l w) (hz : (img.length : Int) ≤ 1000000000000) (hN : ¬ (May gw gi gb ∧ wordsOf gw gi gb ≤ (img.length : Int))) : Spec Tryd.prog 55 #[(.pointer (some ⟨vb, 0, none⟩)), (.agg #[(.int .i64 gw), (.int .i64 gi), (.int .i64 gb)])] B w [] (fun v H' => v = .tuple #[.pointer none, .int .i64 (if May gw gi gb then 8 else 1)] ∧ H' = []) := by
  refine spec_Q Tryd.func55 rfl fun hs => ?_
  refine W.seq fun K1 hK1 => ?_
  refine W.region ?_
  refine ops_new (fun b => .pointer (some ⟨b, 0, none⟩)) (.cells [(.int .i64 gw), (.int .i64 gi), (.int .i64 gb)].toArray 63 (0, 0)) hs (by kernel_rfl) (fun b4 w2 hs3 => ?_)
  refine ops_run 2 (by kernel_rfl) ?_
  refine ops_done (by kernel_rfl) ?_
  refine hK1 _ _ ?_
  clear hK1
  refine W.seq fun K5 hK5 => ?_
  refine W.block ?_
  refine W.seq fun K6 hK6 => ?_
  refine W.region ?_
  refine ops_run 3 (by kernel_rfl) ?_
  refine ops_done (by kernel_rfl) ?_
  refine hK6 _ _ ?_
  clear hK6
  refine W.cond_false false (by kernel_rfl) rfl ?_
  refine W.seq fun K7 hK7 => ?_
  refine W.region ?_
  refine ops_R (runs_loadAgg (ad := ⟨b4, 0, none⟩) (cs := [(.int .i64 gw), (.int .i64 gi), (.int .i64 gb)]) (by kernel_rfl) (cells_sub (hs3.heapAt 0 rfl) rfl)) ?_
  refine ops_call0 hs3 (by kernel_rfl) (may_spec (gw := gw) (gi := gi) (gb := gb) B _) ?_
  rintro _ _ w8 ⟨rfl, rfl⟩ hs9
  have hs10 := St.ap0 hs9
  refine ops_run 2 (by kernel_rfl) ?_
  refine ops_done (by kernel_rfl) ?_
  refine hK7 _ _ ?_
  clear hK7
  refine W.cond (!(decide (May gw gi gb))) (by kernel_rfl) (fun h11 => ?_) (fun h11 => ?_)
  ·
    have h11p : ¬ (May gw gi gb) := of_decide_eq_false (bnot_true h11)
    refine W.seq fun K12 hK12 => ?_
    refine W.region ?_
    refine ops_run 2 (by kernel_rfl) ?_
    refine ops_done (by kernel_rfl) ?_
    refine hK12 _ _ ?_
    clear hK12
    refine W.ret (ret_block (ret_seq ?_))
    have hs13 := St.tk0 hs10
    refine ret_of (.tuple #[(.pointer none), (.int .i64 1)]) (by kernel_rfl) ⟨_, ⟨congrArg (fun z => Value.tuple #[.pointer none, .int .i64 z]) (if_neg (by assumption)).symm, rfl⟩, hs13⟩
  ·
    have h11p : May gw gi gb := of_decide_eq_true (bnot_false h11)
    refine W.seq fun K14 hK14 => ?_
    have hs15 := hs10.drew
    refine W.regionD [(0, 0), (1, 1), (0, 0), (6, 4), (10, 10), (24, 16)] (fun w_ => St B w [] w_ [blk b4 (.cells [(.int .i64 gw), (.int .i64 gi), (.int .i64 gb)].toArray 63 (0, 0))]) (by kernel_rfl) hs15 ?_
    refine any_val (v := (.pointer (some ⟨vb, 0, none⟩))) (v' := (.pointer (some ⟨vb, 0, none⟩))) 0 (by kernel_rfl) (fun _ => by kernel_rfl) rfl hs15 ?_
    refine any_R 2 (by kernel_rfl) (fun _ hS_ => runs_loadAgg (ad := ⟨b4, 0, none⟩) (cs := [(.int .i64 gw), (.int .i64 gi), (.int .i64 gb)]) (by kernel_rfl) (cells_sub (hS_.heapAt 0 rfl) rfl)) hs15 ?_
    refine any_step 1 (by kernel_rfl) (by kernel_rfl) ?_
    refine ops_call0 hs15 (by kernel_rfl) (len_spec (hv := (viewAt_old hs15 hv)) B _) ?_
    rintro _ _ w16 ⟨rfl, rfl⟩ hs17
    have hs18 := St.ap0 hs17
    refine ops_done (by kernel_rfl) ⟨hs18, ?_⟩
    refine any_step 3 (by kernel_rfl) (by kernel_rfl) ?_
    refine ops_call0 hs18 (by kernel_rfl) (lwords_spec (gw := gw) (gi := gi) (gb := gb) B _) ?_
    rintro _ _ w19 ⟨rfl, rfl⟩ hs20
    have hs21 := St.ap0 hs20
    refine ops_done (by kernel_rfl) ⟨hs21, ?_⟩
    refine any_val (v := (.bool (decide ((img.length : Int) < (wordsOf gw gi gb))))) (v' := (.bool (decide ((img.length : Int) < (wordsOf gw gi gb))))) 4 (by kernel_rfl) (fun _ => by kernel_rfl) rfl hs21 ?_
    refine any_val (v := (.bool (decide ((img.length : Int) < (wordsOf gw gi gb))))) (v' := (.bool (decide ((img.length : Int) < (wordsOf gw gi gb))))) 5 (by kernel_rfl) (fun _ => by kernel_rfl) rfl hs21 ?_
    refine any_done (by kernel_rfl) ?_
    refine hK14 _ _ ?_
    clear hK14
    refine W.cond (decide ((img.length : Int) < (wordsOf gw gi gb))) (by kernel_rfl) (fun h22 => ?_) (fun h22 => ?_)
    ·
      have h22p : (img.length : Int) < (wordsOf gw gi gb) := of_decide_eq_true h22
      refine W.seq fun K23 hK23 => ?_
      refine W.region ?_
      refine ops_run 2 (by kernel_rfl) ?_
      refine ops_done (by kernel_rfl) ?_
      refine hK23 _ _ ?_
      clear hK23
      refine W.ret (ret_block (ret_seq ?_))
      have hs24 := St.tk0 hs21
      refine ret_of (.tuple #[(.pointer none), (.int .i64 8)]) (by kernel_rfl) ⟨_, ⟨congrArg (fun z => Value.tuple #[.pointer none, .int .i64 z]) (if_pos (by assumption)).symm, rfl⟩, hs24⟩
    ·
      have h22p : ¬ ((img.length : Int) < (wordsOf gw gi gb)) := of_decide_eq_false h22
      refine W.skip ?_
      refine normal_block ?_
      refine hK5 _ _ ?_
      clear hK5
      refine W.seq fun K25 hK25 => ?_
      have hs26 := hs21.drew
      refine W.regionD [(0, 0), (0, 0), (2, 2), (0, 0), (8, 8), (21, 21), (32, 32), (64, 64), (64, 64), (255, 128), (1023, 256)] (fun w_ => St B w [] w_ [blk b4 (.cells [(.int .i64 gw), (.int .i64 gi), (.int .i64 gb)].toArray 63 (0, 0))]) (by kernel_rfl) hs26 ?_
      refine any_val (v := (.pointer (some ⟨vb, 0, none⟩))) (v' := (.pointer (some ⟨vb, 0, none⟩))) 0 (by kernel_rfl) (fun _ => by kernel_rfl) rfl hs26 ?_
      refine any_R 1 (by kernel_rfl) (fun _ hS_ => runs_loadAgg (ad := ⟨b4, 0, none⟩) (cs := [(.int .i64 gw), (.int .i64 gi), (.int .i64 gb)]) (by kernel_rfl) (cells_sub (hS_.heapAt 0 rfl) rfl)) hs26 ?_
      refine any_val (v := (.pointer (some ⟨b4, 1, none⟩))) (v' := (.pointer (some ⟨b4, 1, none⟩))) 3 (by kernel_rfl) (fun _ => by kernel_rfl) rfl hs26 ?_
      refine any_R 4 (by kernel_rfl) (fun _ hS_ => runs_load (ad := ⟨b4, 1, none⟩) (v := (.int .i64 gi)) (by kernel_rfl) (hS_.cellAt 0 rfl rfl)) hs26 ?_
      refine any_step 2 (by kernel_rfl) (by kernel_rfl) ?_
      refine ops_call0 hs26 (by kernel_rfl) (lmap6_spec (gw := gw) (gi := gi) (gb := gb) B _) ?_
      rintro _ _ w27 ⟨rfl, rfl⟩ hs28
      have hs29 := St.ap0 hs28
      refine ops_done (by kernel_rfl) ⟨hs29, ?_⟩
      refine any_step 5 (by kernel_rfl) (by kernel_rfl) ?_
      have h30 : (img.length : Int) ≤ 1000000000000 := by first | omega | (exact absurd ⟨by assumption, by omega⟩ hN)
      have h31 : (0 ≤ ((placeOf 6 gw gi gb 0) : Int) ∧ ((placeOf 6 gw gi gb 0) : Int) < (img.length : Int)) ∧ (1 ≤ (gi : Int) ∧ (gi : Int) ≤ 1000000000000) ∧ ((gi : Int) - 1) / 64 < (img.length : Int) - ((placeOf 6 gw gi gb 0) : Int) := by first | omega | (exact absurd ⟨by assumption, by omega⟩ hN)
      refine ops_call0 hs29 (by kernel_rfl) (of_ok (hv := (viewAt_old hs29 hv)) (hz := h30) (ho := h31) B _) ?_
      rintro _ _ w33 ⟨b32, rfl, rfl⟩ hs34
      have hs35 := St.ap1 hs34
      have hs36 := St.f1 hs35
      have hs37 := St.tk1 hs36
      refine ops_done (by kernel_rfl) ⟨hs37, ?_⟩
      refine any_val (v := (.tuple #[(.pointer (some ⟨b32, 0, none⟩)), (.int .i64 0)])) (v' := (.tuple #[(.pointer (some ⟨b32, 0, none⟩)), (.int .i64 0)])) 6 (by kernel_rfl) (fun _ => by kernel_rfl) rfl hs37 ?_
      refine any_val (v := (.pointer (some ⟨b32, 0, none⟩))) (v' := (.pointer (some ⟨b32, 0, none⟩))) 7 (by kernel_rfl) (fun _ => by kernel_rfl) rfl hs37 ?_
      refine any_val (v := (.int .i64 0)) (v' := (.int .i64 0)) 8 (by kernel_rfl) (fun _ => by kernel_rfl) rfl hs37 ?_
      refine any_val (v := (.pointer (some ⟨b32, 0, none⟩))) (v' := (.pointer (some ⟨b32, 0, none⟩))) 9 (by kernel_rfl) (fun _ => by kernel_rfl) rfl hs37 ?_
      refine any_val (v := (.int .i64 0)) (v' := (.int .i64 0)) 10 (by kernel_rfl) (fun _ => by kernel_rfl) rfl hs37 ?_
      refine any_done (by kernel_rfl) ?_
      refine hK25 _ _ ?_
      clear hK25
      refine W.seq fun K38 hK38 => ?_
      refine W.seq fun K39 hK39 => ?_
      refine W.region ?_
      refine ops_run 2 (by kernel_rfl) ?_
      refine ops_done (by kernel_rfl) ?_
      refine hK39 _ _ ?_
      clear hK39
      refine W.cond_false false (by kernel_rfl) rfl ?_
      refine W.skip ?_
      refine hK38 _ _ ?_
      clear hK38
      refine W.seq fun K40 hK40 => ?_
      have hs41 := hs35.drew
      refine W.regionD [(0, 0), (0, 0), (2, 2), (0, 0), (8, 8), (21, 21), (32, 32), (64, 64), (64, 64), (255, 128), (1023, 256)] (fun w_ => St B w [] w_ [blk b32 (.cells [(.pointer (some ⟨vb, 0, none⟩)), (.int .i64 (placeOf 6 gw gi gb 0)), (.int .i64 gi)].toArray 151 (0, 0)), blk b4 (.cells [(.int .i64 gw), (.int .i64 gi), (.int .i64 gb)].toArray 63 (0, 0))]) (by kernel_rfl) hs41 ?_
      refine any_val (v := (.pointer (some ⟨vb, 0, none⟩))) (v' := (.pointer (some ⟨vb, 0, none⟩))) 0 (by kernel_rfl) (fun _ => by kernel_rfl) rfl hs41 ?_
      refine any_R 1 (by kernel_rfl) (fun _ hS_ => runs_loadAgg (ad := ⟨b4, 0, none⟩) (cs := [(.int .i64 gw), (.int .i64 gi), (.int .i64 gb)]) (by kernel_rfl) (cells_sub (hS_.heapAt 1 rfl) rfl)) hs41 ?_
      refine any_val (v := (.pointer (some ⟨b4, 2, none⟩))) (v' := (.pointer (some ⟨b4, 2, none⟩))) 3 (by kernel_rfl) (fun _ => by kernel_rfl) rfl hs41 ?_
      refine any_R 4 (by kernel_rfl) (fun _ hS_ => runs_load (ad := ⟨b4, 2, none⟩) (v := (.int .i64 gb)) (by kernel_rfl) (hS_.cellAt 1 rfl rfl)) hs41 ?_
      refine any_step 2 (by kernel_rfl) (by kernel_rfl) ?_
      refine ops_call0 hs41 (by kernel_rfl) (lmap7_spec (gw := gw) (gi := gi) (gb := gb) B _) ?_
      rintro _ _ w42 ⟨rfl, rfl⟩ hs43
      have hs44 := St.ap0 hs43
      refine ops_done (by kernel_rfl) ⟨hs44, ?_⟩
      refine any_step 5 (by kernel_rfl) (by kernel_rfl) ?_
      have h45 : (img.length : Int) ≤ 1000000000000 := by first | omega | (exact absurd ⟨by assumption, by omega⟩ hN)
      have h46 : (0 ≤ ((placeOf 7 gw gi gb 0) : Int) ∧ ((placeOf 7 gw gi gb 0) : Int) < (img.length : Int)) ∧ (1 ≤ (gb : Int) ∧ (gb : Int) ≤ 1000000000000) ∧ ((gb : Int) - 1) / 64 < (img.length : Int) - ((placeOf 7 gw gi gb 0) : Int) := by first | omega | (exact absurd ⟨by assumption, by omega⟩ hN)
      refine ops_call0 hs44 (by kernel_rfl) (of_ok (hv := (viewAt_old hs44 hv)) (hz := h45) (ho := h46) B _) ?_
      rintro _ _ w48 ⟨b47, rfl, rfl⟩ hs49
      have hs50 := St.ap1 hs49
      have hs51 := St.f2 hs50
      have hs52 := St.f2 hs51
      have hs53 := St.tk2 hs52
      refine ops_done (by kernel_rfl) ⟨hs53, ?_⟩
      refine any_val (v := (.tuple #[(.pointer (some ⟨b47, 0, none⟩)), (.int .i64 0)])) (v' := (.tuple #[(.pointer (some ⟨b47, 0, none⟩)), (.int .i64 0)])) 6 (by kernel_rfl) (fun _ => by kernel_rfl) rfl hs53 ?_
      refine any_val (v := (.pointer (some ⟨b47, 0, none⟩))) (v' := (.pointer (some ⟨b47, 0, none⟩))) 7 (by kernel_rfl) (fun _ => by kernel_rfl) rfl hs53 ?_
      refine any_val (v := (.int .i64 0)) (v' := (.int .i64 0)) 8 (by kernel_rfl) (fun _ => by kernel_rfl) rfl hs53 ?_
      refine any_val (v := (.pointer (some ⟨b47, 0, none⟩))) (v' := (.pointer (some ⟨b47, 0, none⟩))) 9 (by kernel_rfl) (fun _ => by kernel_rfl) rfl hs53 ?_
      refine any_val (v := (.int .i64 0)) (v' := (.int .i64 0)) 10 (by kernel_rfl) (fun _ => by kernel_rfl) rfl hs53 ?_
      refine any_done (by kernel_rfl) ?_
      refine hK40 _ _ ?_
      clear hK40
      refine W.seq fun K54 hK54 => ?_
      refine W.seq fun K55 hK55 => ?_
      refine W.region ?_
      refine ops_run 2 (by kernel_rfl) ?_
      refine ops_done (by kernel_rfl) ?_
      refine hK55 _ _ ?_
      clear hK55
      refine W.cond_false false (by kernel_rfl) rfl ?_
      refine W.skip ?_
      refine hK54 _ _ ?_
      clear hK54
      refine W.seq fun K56 hK56 => ?_
      refine W.region ?_
      refine ops_run 1 (by kernel_rfl) ?_
      refine ops_R (runs_loadAgg (ad := ⟨b4, 0, none⟩) (cs := [(.int .i64 gw), (.int .i64 gi), (.int .i64 gb)]) (by kernel_rfl) (cells_sub (hs50.heapAt 2 rfl) rfl)) ?_
      refine ops_run 2 (by kernel_rfl) ?_
      refine ops_R (runs_load (ad := ⟨b4, 1, none⟩) (v := (.int .i64 gi)) (by kernel_rfl) (hs50.cellAt 2 rfl rfl)) ?_
      refine ops_run 3 (by kernel_rfl) ?_
      refine ops_R (runs_load (ad := ⟨b4, 2, none⟩) (v := (.int .i64 gb)) (by kernel_rfl) (hs50.cellAt 2 rfl rfl)) ?_
      refine ops_run 2 (by kernel_rfl) ?_
      refine ops_new (fun b => .pointer (some ⟨b, 0, none⟩)) (.cells [(.pointer (some ⟨vb, 0, none⟩)), (.int .i64 gw), (.int .i64 gi), (.int .i64 gb), (.pointer (some ⟨b32, 0, none⟩)), (.int .i64 gi), (.pointer (some ⟨b47, 0, none⟩)), (.int .i64 gb)].toArray 188 (0, 0)) hs50 (by kernel_rfl) (fun b59 w57 hs58 => ?_)
      refine ops_run 2 (by kernel_rfl) ?_
      refine ops_done (by kernel_rfl) ?_
      refine hK56 _ _ ?_
      clear hK56
      refine W.ret ?_
      exfalso
      first | omega | (exact hN ⟨by assumption, by omega⟩)

set_option maxRecDepth 20000 in
theorem rnew_ok {p : Value} {img : List Int} {l : List (Int × Int)} {gw gi gb : Int} (B : Nat) (w : World) (hv : RefAt p img l w) (hz : (img.length : Int) ≤ 1000000000000) (hP : May gw gi gb ∧ wordsOf gw gi gb ≤ (img.length : Int)) : Spec Tryd.prog 81 #[p, (.agg #[(.int .i64 gw), (.int .i64 gi), (.int .i64 gb)])] B w [] (fun v H' => ∃ ab ib bb, v = .tuple #[ptr ab, .int .i64 0] ∧ H' = [blk ab (.cells [p, (.int .i64 gw), (.int .i64 gi), (.int .i64 gb), (.pointer (some ⟨ib, 0, none⟩)), (.pointer (some ⟨bb, 0, none⟩))].toArray 204 (0, 0)), blk ib (.cells [p, (.int .i64 (placeOf 6 gw gi gb 0)), (.int .i64 gi)].toArray 202 (0, 0)), blk bb (.cells [p, (.int .i64 (placeOf 7 gw gi gb 0)), (.int .i64 gb)].toArray 202 (0, 0))]) := by
  refine spec_Q Tryd.func81 rfl fun hs => ?_
  have hv0 := hv
  obtain ⟨x, rfl, hok, hb, hi, ho, hcap⟩ := hv
  have hroom := hok.many
  have hroom2 := hok.size
  have hm : May gw gi gb := hP.1
  have hl := hP.2
  have hm_ : (1 ≤ gw ∧ gw ≤ 4) ∧ (2 ≤ gi ∧ gi ≤ 64) ∧ (2 ≤ gb ∧ gb ≤ 512) := hm
  have hwd := words_may hm
  have hp6 := place6 hm
  have hp7 := place7 hm
  refine W.seq fun K1 hK1 => ?_
  refine W.region ?_
  refine ops_new (fun b => .pointer (some ⟨b, 0, none⟩)) (.cells [(.int .i64 gw), (.int .i64 gi), (.int .i64 gb)].toArray 88 (0, 0)) hs (by kernel_rfl) (fun b4 w2 hs3 => ?_)
  refine ops_run 2 (by kernel_rfl) ?_
  refine ops_done (by kernel_rfl) ?_
  refine hK1 _ _ ?_
  clear hK1
  refine W.seq fun K5 hK5 => ?_
  refine W.seq fun K6 hK6 => ?_
  refine W.region ?_
  refine ops_R (runs_loadAgg (ad := ⟨b4, 0, none⟩) (cs := [(.int .i64 gw), (.int .i64 gi), (.int .i64 gb)]) (by kernel_rfl) (cells_sub (hs3.heapAt 0 rfl) rfl)) ?_
  refine ops_call0 hs3 (by kernel_rfl) (rmay_spec (gw := gw) (gi := gi) (gb := gb) B _) ?_
  rintro _ _ w7 ⟨rfl, rfl⟩ hs8
  have hs9 := St.ap0 hs8
  refine ops_run 1 (by kernel_rfl) ?_
  refine ops_done (by kernel_rfl) ?_
  refine hK6 _ _ ?_
  clear hK6
  refine W.cond (!(decide (May gw gi gb))) (by kernel_rfl) (fun h10 => ?_) (fun h10 => ?_)
  ·
    have h10p : ¬ (May gw gi gb) := of_decide_eq_false (bnot_true h10)
    refine W.seq fun K11 hK11 => ?_
    refine W.region ?_
    refine ops_run 2 (by kernel_rfl) ?_
    refine ops_done (by kernel_rfl) ?_
    refine hK11 _ _ ?_
    clear hK11
    refine W.ret (ret_seq ?_)
    exfalso
    first | omega | (exact absurd hm (by assumption))
  ·
    have h10p : May gw gi gb := of_decide_eq_true (bnot_false h10)
    refine W.skip ?_
    refine hK5 _ _ ?_
    clear hK5
    refine W.seq fun K12 hK12 => ?_
    refine W.seq fun K13 hK13 => ?_
    have hs14 := hs9.drew
    refine W.regionD [(0, 0), (1, 1), (2, 2), (4, 4), (8, 8), (0, 0), (32, 32), (80, 80)] (fun w_ => St B w [] w_ [blk b4 (.cells [(.int .i64 gw), (.int .i64 gi), (.int .i64 gb)].toArray 88 (0, 0))]) (by kernel_rfl) hs14 ?_
    refine any_val (v := (.pointer (some ⟨x.b, 0, none⟩))) (v' := (.pointer (some ⟨x.b, 0, none⟩))) 0 (by kernel_rfl) (fun _ => by kernel_rfl) rfl hs14 ?_
    refine any_val (v := (.pointer (some ⟨x.b, 0, none⟩))) (v' := (.pointer (some ⟨x.b, 0, none⟩))) 1 (by kernel_rfl) (fun _ => by kernel_rfl) rfl hs14 ?_
    refine any_val (v := (.pointer (some ⟨x.b, 0, none⟩))) (v' := (.pointer (some ⟨x.b, 0, none⟩))) 2 (by kernel_rfl) (fun _ => by kernel_rfl) rfl hs14 ?_
    refine any_R 3 (by kernel_rfl) (fun _ hS_ => runs_load (ad := ⟨x.b, 0, none⟩) (v := (.slice x.ia img.length x.ic)) (by kernel_rfl) (cell_of_blk (hS_.old hb) rfl)) hs14 ?_
    refine any_val (v := (.int .i64 (img.length : Int))) (v' := (.int .i64 (img.length : Int))) 4 (by kernel_rfl) (fun _ => by kernel_rfl) rfl hs14 ?_
    refine any_R 5 (by kernel_rfl) (fun _ hS_ => runs_loadAgg (ad := ⟨b4, 0, none⟩) (cs := [(.int .i64 gw), (.int .i64 gi), (.int .i64 gb)]) (by kernel_rfl) (cells_sub (hS_.heapAt 0 rfl) rfl)) hs14 ?_
    refine any_step 6 (by kernel_rfl) (by kernel_rfl) ?_
    refine ops_call0 hs14 (by kernel_rfl) (rwords_spec (gw := gw) (gi := gi) (gb := gb) B _) ?_
    rintro _ _ w15 ⟨rfl, rfl⟩ hs16
    have hs17 := St.ap0 hs16
    refine ops_done (by kernel_rfl) ⟨hs17, ?_⟩
    refine any_val (v := (.bool (decide ((img.length : Int) < (wordsOf gw gi gb))))) (v' := (.bool (decide ((img.length : Int) < (wordsOf gw gi gb))))) 7 (by kernel_rfl) (fun _ => by kernel_rfl) rfl hs17 ?_
    refine any_done (by kernel_rfl) ?_
    refine hK13 _ _ ?_
    clear hK13
    refine W.cond (decide ((img.length : Int) < (wordsOf gw gi gb))) (by kernel_rfl) (fun h18 => ?_) (fun h18 => ?_)
    ·
      have h18p : (img.length : Int) < (wordsOf gw gi gb) := of_decide_eq_true h18
      refine W.seq fun K19 hK19 => ?_
      refine W.region ?_
      refine ops_run 2 (by kernel_rfl) ?_
      refine ops_done (by kernel_rfl) ?_
      refine hK19 _ _ ?_
      clear hK19
      refine W.ret (ret_seq ?_)
      exfalso
      first | omega | (exact absurd hm (by assumption))
    ·
      have h18p : ¬ ((img.length : Int) < (wordsOf gw gi gb)) := of_decide_eq_false h18
      refine W.skip ?_
      refine hK12 _ _ ?_
      clear hK12
      refine W.seq fun K20 hK20 => ?_
      have hs21 := hs17.drew
      refine W.regionD [(0, 0), (0, 0), (0, 0), (0, 0), (8, 8), (0, 0), (32, 32), (84, 84), (128, 128), (0, 0), (0, 0), (1040, 1024), (0, 0), (4096, 4096), (10752, 10752), (16384, 16384), (33027, 33027), (65536, 65536), (262143, 131072), (524287, 0)] (fun w_ => St B w [] w_ [blk b4 (.cells [(.int .i64 gw), (.int .i64 gi), (.int .i64 gb)].toArray 88 (0, 0))]) (by kernel_rfl) hs21 ?_
      refine any_val (v := (.pointer (some ⟨x.b, 0, none⟩))) (v' := (.pointer (some ⟨x.b, 0, none⟩))) 0 (by kernel_rfl) (fun _ => by kernel_rfl) rfl hs21 ?_
      refine any_R 1 (by kernel_rfl) (fun _ hS_ => runs_loadAgg (ad := ⟨b4, 0, none⟩) (cs := [(.int .i64 gw), (.int .i64 gi), (.int .i64 gb)]) (by kernel_rfl) (cells_sub (hS_.heapAt 0 rfl) rfl)) hs21 ?_
      refine any_val (v := (.pointer (some ⟨x.b, 0, none⟩))) (v' := (.pointer (some ⟨x.b, 0, none⟩))) 2 (by kernel_rfl) (fun _ => by kernel_rfl) rfl hs21 ?_
      refine any_R 3 (by kernel_rfl) (fun _ hS_ => runs_loadAgg (ad := ⟨b4, 0, none⟩) (cs := [(.int .i64 gw), (.int .i64 gi), (.int .i64 gb)]) (by kernel_rfl) (cells_sub (hS_.heapAt 0 rfl) rfl)) hs21 ?_
      refine any_val (v := (.pointer (some ⟨b4, 1, none⟩))) (v' := (.pointer (some ⟨b4, 1, none⟩))) 5 (by kernel_rfl) (fun _ => by kernel_rfl) rfl hs21 ?_
      refine any_R 6 (by kernel_rfl) (fun _ hS_ => runs_load (ad := ⟨b4, 1, none⟩) (v := (.int .i64 gi)) (by kernel_rfl) (hS_.cellAt 0 rfl rfl)) hs21 ?_
      refine any_val (v := (.pointer (some ⟨x.b, 0, none⟩))) (v' := (.pointer (some ⟨x.b, 0, none⟩))) 9 (by kernel_rfl) (fun _ => by kernel_rfl) rfl hs21 ?_
      refine any_R 10 (by kernel_rfl) (fun _ hS_ => runs_loadAgg (ad := ⟨b4, 0, none⟩) (cs := [(.int .i64 gw), (.int .i64 gi), (.int .i64 gb)]) (by kernel_rfl) (cells_sub (hS_.heapAt 0 rfl) rfl)) hs21 ?_
      refine any_val (v := (.pointer (some ⟨b4, 2, none⟩))) (v' := (.pointer (some ⟨b4, 2, none⟩))) 12 (by kernel_rfl) (fun _ => by kernel_rfl) rfl hs21 ?_
      refine any_R 13 (by kernel_rfl) (fun _ hS_ => runs_load (ad := ⟨b4, 2, none⟩) (v := (.int .i64 gb)) (by kernel_rfl) (hS_.cellAt 0 rfl rfl)) hs21 ?_
      refine any_step 4 (by kernel_rfl) (by kernel_rfl) ?_
      refine ops_call0 hs21 (by kernel_rfl) (rmapat_spec (gw := gw) (gi := gi) (gb := gb) B _) ?_
      rintro _ _ w22 ⟨rfl, rfl⟩ hs23
      have hs24 := St.ap0 hs23
      refine ops_done (by kernel_rfl) ⟨hs24, ?_⟩
      refine any_val (v := (.agg #[(.pointer (some ⟨x.b, 0, none⟩)), (.int .i64 (placeOf 6 gw gi gb 0)), (.int .i64 gi)])) (v' := (.agg #[(.pointer (some ⟨x.b, 0, none⟩)), (.int .i64 (placeOf 6 gw gi gb 0)), (.int .i64 gi)])) 7 (by kernel_rfl) (fun _ => by kernel_rfl) rfl hs24 ?_
      refine any_step2 8 11 (by kernel_rfl) (by kernel_rfl) (by kernel_rfl) ?_ ?_
      ·
        refine ops_new (fun b => .pointer (some ⟨b, 0, none⟩)) (.cells [(.pointer (some ⟨x.b, 0, none⟩)), (.int .i64 (placeOf 6 gw gi gb 0)), (.int .i64 gi)].toArray 202 (0, 0)) hs24 (by kernel_rfl) (fun b27 w25 hs26 => ?_)
        have hs28 := St.f1 hs26
        have hs29 := St.tk1 hs28
        refine ops_done (by kernel_rfl) ⟨hs29, ?_⟩
        refine any_step 11 (by kernel_rfl) (by kernel_rfl) ?_
        refine ops_call0 hs26 (by kernel_rfl) (rbmapat_spec (gw := gw) (gi := gi) (gb := gb) B _) ?_
        rintro _ _ w30 ⟨rfl, rfl⟩ hs31
        have hs32 := St.ap0 hs31
        have hs33 := St.f1 hs32
        have hs34 := St.tk1 hs33
        refine ops_done (by kernel_rfl) ⟨hs34, ?_⟩
        refine any_val (v := (.agg #[(.pointer (some ⟨x.b, 0, none⟩)), (.int .i64 (placeOf 7 gw gi gb 0)), (.int .i64 gb)])) (v' := (.agg #[(.pointer (some ⟨x.b, 0, none⟩)), (.int .i64 (placeOf 7 gw gi gb 0)), (.int .i64 gb)])) 14 (by kernel_rfl) (fun _ => by kernel_rfl) rfl hs34 ?_
        refine any_step 15 (by kernel_rfl) (by kernel_rfl) ?_
        refine ops_new (fun b => .pointer (some ⟨b, 0, none⟩)) (.cells [(.pointer (some ⟨x.b, 0, none⟩)), (.int .i64 (placeOf 7 gw gi gb 0)), (.int .i64 gb)].toArray 202 (0, 0)) hs32 (by kernel_rfl) (fun b37 w35 hs36 => ?_)
        have hs38 := St.f2 hs36
        have hs39 := St.tk1 hs38
        refine ops_done (by kernel_rfl) ⟨hs39, ?_⟩
        refine any_val (v := (.agg #[(.pointer (some ⟨x.b, 0, none⟩)), (.int .i64 gw), (.int .i64 gi), (.int .i64 gb), (.pointer (some ⟨b27, 0, none⟩)), (.pointer (some ⟨b37, 0, none⟩))])) (v' := (.agg #[(.pointer (some ⟨x.b, 0, none⟩)), (.int .i64 gw), (.int .i64 gi), (.int .i64 gb), (.pointer (some ⟨b27, 0, none⟩)), (.pointer (some ⟨b37, 0, none⟩))])) 16 (by kernel_rfl) (fun _ => by kernel_rfl) rfl hs39 ?_
        refine any_step 17 (by kernel_rfl) (by kernel_rfl) ?_
        refine ops_new (fun b => .pointer (some ⟨b, 0, none⟩)) (.cells [(.pointer (some ⟨x.b, 0, none⟩)), (.int .i64 gw), (.int .i64 gi), (.int .i64 gb), (.pointer (some ⟨b27, 0, none⟩)), (.pointer (some ⟨b37, 0, none⟩))].toArray 204 (0, 0)) hs36 (by kernel_rfl) (fun b42 w40 hs41 => ?_)
        have hs43 := St.f3 hs41
        have hs44 := St.tk1 hs43
        refine ops_done (by kernel_rfl) ⟨hs44, ?_⟩
        refine any_val (v := (.pointer (some ⟨b42, 0, none⟩))) (v' := (.pointer (some ⟨b42, 0, none⟩))) 18 (by kernel_rfl) (fun _ => by kernel_rfl) rfl hs44 ?_
        refine any_val (v := (.int .i64 0)) (v' := (.int .i64 0)) 19 (by kernel_rfl) (fun _ => by kernel_rfl) rfl hs44 ?_
        refine any_done (by kernel_rfl) ?_
        refine hK20 _ _ ?_
        clear hK20
        refine W.ret ?_
        have hs45 := St.f1 hs41
        have hs46 := St.f2 hs45
        have hs47 := St.f2 hs46
        have hs48 := St.tk3 hs47
        refine ret_of (.tuple #[(.pointer (some ⟨b42, 0, none⟩)), (.int .i64 0)]) (by kernel_rfl) ⟨_, ⟨b42, b27, b37, rfl, rfl⟩, hs48⟩
      ·
        refine ops_call0 hs24 (by kernel_rfl) (rbmapat_spec (gw := gw) (gi := gi) (gb := gb) B _) ?_
        rintro _ _ w49 ⟨rfl, rfl⟩ hs50
        have hs51 := St.ap0 hs50
        refine ops_done (by kernel_rfl) ⟨hs51, ?_⟩
        refine any_val (v := (.agg #[(.pointer (some ⟨x.b, 0, none⟩)), (.int .i64 (placeOf 7 gw gi gb 0)), (.int .i64 gb)])) (v' := (.agg #[(.pointer (some ⟨x.b, 0, none⟩)), (.int .i64 (placeOf 7 gw gi gb 0)), (.int .i64 gb)])) 14 (by kernel_rfl) (fun _ => by kernel_rfl) rfl hs51 ?_
        refine any_step2 8 15 (by kernel_rfl) (by kernel_rfl) (by kernel_rfl) ?_ ?_
        ·
          refine ops_new (fun b => .pointer (some ⟨b, 0, none⟩)) (.cells [(.pointer (some ⟨x.b, 0, none⟩)), (.int .i64 (placeOf 6 gw gi gb 0)), (.int .i64 gi)].toArray 202 (0, 0)) hs51 (by kernel_rfl) (fun b54 w52 hs53 => ?_)
          have hs55 := St.f1 hs53
          have hs56 := St.tk1 hs55
          refine ops_done (by kernel_rfl) ⟨hs56, ?_⟩
          refine any_step 15 (by kernel_rfl) (by kernel_rfl) ?_
          refine ops_new (fun b => .pointer (some ⟨b, 0, none⟩)) (.cells [(.pointer (some ⟨x.b, 0, none⟩)), (.int .i64 (placeOf 7 gw gi gb 0)), (.int .i64 gb)].toArray 202 (0, 0)) hs53 (by kernel_rfl) (fun b59 w57 hs58 => ?_)
          have hs60 := St.f2 hs58
          have hs61 := St.tk1 hs60
          refine ops_done (by kernel_rfl) ⟨hs61, ?_⟩
          refine any_val (v := (.agg #[(.pointer (some ⟨x.b, 0, none⟩)), (.int .i64 gw), (.int .i64 gi), (.int .i64 gb), (.pointer (some ⟨b54, 0, none⟩)), (.pointer (some ⟨b59, 0, none⟩))])) (v' := (.agg #[(.pointer (some ⟨x.b, 0, none⟩)), (.int .i64 gw), (.int .i64 gi), (.int .i64 gb), (.pointer (some ⟨b54, 0, none⟩)), (.pointer (some ⟨b59, 0, none⟩))])) 16 (by kernel_rfl) (fun _ => by kernel_rfl) rfl hs61 ?_
          refine any_step 17 (by kernel_rfl) (by kernel_rfl) ?_
          refine ops_new (fun b => .pointer (some ⟨b, 0, none⟩)) (.cells [(.pointer (some ⟨x.b, 0, none⟩)), (.int .i64 gw), (.int .i64 gi), (.int .i64 gb), (.pointer (some ⟨b54, 0, none⟩)), (.pointer (some ⟨b59, 0, none⟩))].toArray 204 (0, 0)) hs58 (by kernel_rfl) (fun b64 w62 hs63 => ?_)
          have hs65 := St.f3 hs63
          have hs66 := St.tk1 hs65
          refine ops_done (by kernel_rfl) ⟨hs66, ?_⟩
          refine any_val (v := (.pointer (some ⟨b64, 0, none⟩))) (v' := (.pointer (some ⟨b64, 0, none⟩))) 18 (by kernel_rfl) (fun _ => by kernel_rfl) rfl hs66 ?_
          refine any_val (v := (.int .i64 0)) (v' := (.int .i64 0)) 19 (by kernel_rfl) (fun _ => by kernel_rfl) rfl hs66 ?_
          refine any_done (by kernel_rfl) ?_
          refine hK20 _ _ ?_
          clear hK20
          refine W.ret ?_
          have hs67 := St.f1 hs63
          have hs68 := St.f2 hs67
          have hs69 := St.f2 hs68
          have hs70 := St.tk3 hs69
          refine ret_of (.tuple #[(.pointer (some ⟨b64, 0, none⟩)), (.int .i64 0)]) (by kernel_rfl) ⟨_, ⟨b64, b54, b59, rfl, rfl⟩, hs70⟩
        ·
          refine ops_new (fun b => .pointer (some ⟨b, 0, none⟩)) (.cells [(.pointer (some ⟨x.b, 0, none⟩)), (.int .i64 (placeOf 7 gw gi gb 0)), (.int .i64 gb)].toArray 202 (0, 0)) hs51 (by kernel_rfl) (fun b73 w71 hs72 => ?_)
          have hs74 := St.f1 hs72
          have hs75 := St.tk1 hs74
          refine ops_done (by kernel_rfl) ⟨hs75, ?_⟩
          refine any_step 8 (by kernel_rfl) (by kernel_rfl) ?_
          refine ops_new (fun b => .pointer (some ⟨b, 0, none⟩)) (.cells [(.pointer (some ⟨x.b, 0, none⟩)), (.int .i64 (placeOf 6 gw gi gb 0)), (.int .i64 gi)].toArray 202 (0, 0)) hs72 (by kernel_rfl) (fun b78 w76 hs77 => ?_)
          have hs79 := St.f2 hs77
          have hs80 := St.tk1 hs79
          refine ops_done (by kernel_rfl) ⟨hs80, ?_⟩
          refine any_val (v := (.agg #[(.pointer (some ⟨x.b, 0, none⟩)), (.int .i64 gw), (.int .i64 gi), (.int .i64 gb), (.pointer (some ⟨b78, 0, none⟩)), (.pointer (some ⟨b73, 0, none⟩))])) (v' := (.agg #[(.pointer (some ⟨x.b, 0, none⟩)), (.int .i64 gw), (.int .i64 gi), (.int .i64 gb), (.pointer (some ⟨b78, 0, none⟩)), (.pointer (some ⟨b73, 0, none⟩))])) 16 (by kernel_rfl) (fun _ => by kernel_rfl) rfl hs80 ?_
          refine any_step 17 (by kernel_rfl) (by kernel_rfl) ?_
          refine ops_new (fun b => .pointer (some ⟨b, 0, none⟩)) (.cells [(.pointer (some ⟨x.b, 0, none⟩)), (.int .i64 gw), (.int .i64 gi), (.int .i64 gb), (.pointer (some ⟨b78, 0, none⟩)), (.pointer (some ⟨b73, 0, none⟩))].toArray 204 (0, 0)) hs77 (by kernel_rfl) (fun b83 w81 hs82 => ?_)
          have hs84 := St.f3 hs82
          have hs85 := St.tk1 hs84
          refine ops_done (by kernel_rfl) ⟨hs85, ?_⟩
          refine any_val (v := (.pointer (some ⟨b83, 0, none⟩))) (v' := (.pointer (some ⟨b83, 0, none⟩))) 18 (by kernel_rfl) (fun _ => by kernel_rfl) rfl hs85 ?_
          refine any_val (v := (.int .i64 0)) (v' := (.int .i64 0)) 19 (by kernel_rfl) (fun _ => by kernel_rfl) rfl hs85 ?_
          refine any_done (by kernel_rfl) ?_
          refine hK20 _ _ ?_
          clear hK20
          refine W.ret ?_
          have hs86 := St.f2 hs82
          have hs87 := St.f2 hs86
          have hs88 := St.f2 hs87
          have hs89 := St.tk3 hs88
          refine ret_of (.tuple #[(.pointer (some ⟨b83, 0, none⟩)), (.int .i64 0)]) (by kernel_rfl) ⟨_, ⟨b83, b78, b73, rfl, rfl⟩, hs89⟩

set_option maxRecDepth 20000 in
theorem rnew_err {p : Value} {img : List Int} {l : List (Int × Int)} {gw gi gb : Int} (B : Nat) (w : World) (hv : RefAt p img l w) (hz : (img.length : Int) ≤ 1000000000000) (hN : ¬ (May gw gi gb ∧ wordsOf gw gi gb ≤ (img.length : Int))) : Spec Tryd.prog 81 #[p, (.agg #[(.int .i64 gw), (.int .i64 gi), (.int .i64 gb)])] B w [] (fun v H' => v = .tuple #[.pointer none, .int .i64 (if May gw gi gb then 8 else 1)] ∧ H' = []) := by
  refine spec_Q Tryd.func81 rfl fun hs => ?_
  have hv0 := hv
  obtain ⟨x, rfl, hok, hb, hi, ho, hcap⟩ := hv
  have hroom := hok.many
  have hroom2 := hok.size
  refine W.seq fun K1 hK1 => ?_
  refine W.region ?_
  refine ops_new (fun b => .pointer (some ⟨b, 0, none⟩)) (.cells [(.int .i64 gw), (.int .i64 gi), (.int .i64 gb)].toArray 88 (0, 0)) hs (by kernel_rfl) (fun b4 w2 hs3 => ?_)
  refine ops_run 2 (by kernel_rfl) ?_
  refine ops_done (by kernel_rfl) ?_
  refine hK1 _ _ ?_
  clear hK1
  refine W.seq fun K5 hK5 => ?_
  refine W.seq fun K6 hK6 => ?_
  refine W.region ?_
  refine ops_R (runs_loadAgg (ad := ⟨b4, 0, none⟩) (cs := [(.int .i64 gw), (.int .i64 gi), (.int .i64 gb)]) (by kernel_rfl) (cells_sub (hs3.heapAt 0 rfl) rfl)) ?_
  refine ops_call0 hs3 (by kernel_rfl) (rmay_spec (gw := gw) (gi := gi) (gb := gb) B _) ?_
  rintro _ _ w7 ⟨rfl, rfl⟩ hs8
  have hs9 := St.ap0 hs8
  refine ops_run 1 (by kernel_rfl) ?_
  refine ops_done (by kernel_rfl) ?_
  refine hK6 _ _ ?_
  clear hK6
  refine W.cond (!(decide (May gw gi gb))) (by kernel_rfl) (fun h10 => ?_) (fun h10 => ?_)
  ·
    have h10p : ¬ (May gw gi gb) := of_decide_eq_false (bnot_true h10)
    refine W.seq fun K11 hK11 => ?_
    refine W.region ?_
    refine ops_run 2 (by kernel_rfl) ?_
    refine ops_done (by kernel_rfl) ?_
    refine hK11 _ _ ?_
    clear hK11
    refine W.ret (ret_seq ?_)
    have hs12 := St.tk0 hs9
    refine ret_of (.tuple #[(.pointer none), (.int .i64 1)]) (by kernel_rfl) ⟨_, ⟨congrArg (fun z => Value.tuple #[.pointer none, .int .i64 z]) (if_neg (by assumption)).symm, rfl⟩, hs12⟩
  ·
    have h10p : May gw gi gb := of_decide_eq_true (bnot_false h10)
    refine W.skip ?_
    refine hK5 _ _ ?_
    clear hK5
    refine W.seq fun K13 hK13 => ?_
    refine W.seq fun K14 hK14 => ?_
    have hs15 := hs9.drew
    refine W.regionD [(0, 0), (1, 1), (2, 2), (4, 4), (8, 8), (0, 0), (32, 32), (80, 80)] (fun w_ => St B w [] w_ [blk b4 (.cells [(.int .i64 gw), (.int .i64 gi), (.int .i64 gb)].toArray 88 (0, 0))]) (by kernel_rfl) hs15 ?_
    refine any_val (v := (.pointer (some ⟨x.b, 0, none⟩))) (v' := (.pointer (some ⟨x.b, 0, none⟩))) 0 (by kernel_rfl) (fun _ => by kernel_rfl) rfl hs15 ?_
    refine any_val (v := (.pointer (some ⟨x.b, 0, none⟩))) (v' := (.pointer (some ⟨x.b, 0, none⟩))) 1 (by kernel_rfl) (fun _ => by kernel_rfl) rfl hs15 ?_
    refine any_val (v := (.pointer (some ⟨x.b, 0, none⟩))) (v' := (.pointer (some ⟨x.b, 0, none⟩))) 2 (by kernel_rfl) (fun _ => by kernel_rfl) rfl hs15 ?_
    refine any_R 3 (by kernel_rfl) (fun _ hS_ => runs_load (ad := ⟨x.b, 0, none⟩) (v := (.slice x.ia img.length x.ic)) (by kernel_rfl) (cell_of_blk (hS_.old hb) rfl)) hs15 ?_
    refine any_val (v := (.int .i64 (img.length : Int))) (v' := (.int .i64 (img.length : Int))) 4 (by kernel_rfl) (fun _ => by kernel_rfl) rfl hs15 ?_
    refine any_R 5 (by kernel_rfl) (fun _ hS_ => runs_loadAgg (ad := ⟨b4, 0, none⟩) (cs := [(.int .i64 gw), (.int .i64 gi), (.int .i64 gb)]) (by kernel_rfl) (cells_sub (hS_.heapAt 0 rfl) rfl)) hs15 ?_
    refine any_step 6 (by kernel_rfl) (by kernel_rfl) ?_
    refine ops_call0 hs15 (by kernel_rfl) (rwords_spec (gw := gw) (gi := gi) (gb := gb) B _) ?_
    rintro _ _ w16 ⟨rfl, rfl⟩ hs17
    have hs18 := St.ap0 hs17
    refine ops_done (by kernel_rfl) ⟨hs18, ?_⟩
    refine any_val (v := (.bool (decide ((img.length : Int) < (wordsOf gw gi gb))))) (v' := (.bool (decide ((img.length : Int) < (wordsOf gw gi gb))))) 7 (by kernel_rfl) (fun _ => by kernel_rfl) rfl hs18 ?_
    refine any_done (by kernel_rfl) ?_
    refine hK14 _ _ ?_
    clear hK14
    refine W.cond (decide ((img.length : Int) < (wordsOf gw gi gb))) (by kernel_rfl) (fun h19 => ?_) (fun h19 => ?_)
    ·
      have h19p : (img.length : Int) < (wordsOf gw gi gb) := of_decide_eq_true h19
      refine W.seq fun K20 hK20 => ?_
      refine W.region ?_
      refine ops_run 2 (by kernel_rfl) ?_
      refine ops_done (by kernel_rfl) ?_
      refine hK20 _ _ ?_
      clear hK20
      refine W.ret (ret_seq ?_)
      have hs21 := St.tk0 hs18
      refine ret_of (.tuple #[(.pointer none), (.int .i64 8)]) (by kernel_rfl) ⟨_, ⟨congrArg (fun z => Value.tuple #[.pointer none, .int .i64 z]) (if_pos (by assumption)).symm, rfl⟩, hs21⟩
    ·
      have h19p : ¬ ((img.length : Int) < (wordsOf gw gi gb)) := of_decide_eq_false h19
      refine W.skip ?_
      refine hK13 _ _ ?_
      clear hK13
      refine W.seq fun K22 hK22 => ?_
      have hs23 := hs18.drew
      refine W.regionD [(0, 0), (0, 0), (0, 0), (0, 0), (8, 8), (0, 0), (32, 32), (84, 84), (128, 128), (0, 0), (0, 0), (1040, 1024), (0, 0), (4096, 4096), (10752, 10752), (16384, 16384), (33027, 33027), (65536, 65536), (262143, 131072), (524287, 0)] (fun w_ => St B w [] w_ [blk b4 (.cells [(.int .i64 gw), (.int .i64 gi), (.int .i64 gb)].toArray 88 (0, 0))]) (by kernel_rfl) hs23 ?_
      refine any_val (v := (.pointer (some ⟨x.b, 0, none⟩))) (v' := (.pointer (some ⟨x.b, 0, none⟩))) 0 (by kernel_rfl) (fun _ => by kernel_rfl) rfl hs23 ?_
      refine any_R 1 (by kernel_rfl) (fun _ hS_ => runs_loadAgg (ad := ⟨b4, 0, none⟩) (cs := [(.int .i64 gw), (.int .i64 gi), (.int .i64 gb)]) (by kernel_rfl) (cells_sub (hS_.heapAt 0 rfl) rfl)) hs23 ?_
      refine any_val (v := (.pointer (some ⟨x.b, 0, none⟩))) (v' := (.pointer (some ⟨x.b, 0, none⟩))) 2 (by kernel_rfl) (fun _ => by kernel_rfl) rfl hs23 ?_
      refine any_R 3 (by kernel_rfl) (fun _ hS_ => runs_loadAgg (ad := ⟨b4, 0, none⟩) (cs := [(.int .i64 gw), (.int .i64 gi), (.int .i64 gb)]) (by kernel_rfl) (cells_sub (hS_.heapAt 0 rfl) rfl)) hs23 ?_
      refine any_val (v := (.pointer (some ⟨b4, 1, none⟩))) (v' := (.pointer (some ⟨b4, 1, none⟩))) 5 (by kernel_rfl) (fun _ => by kernel_rfl) rfl hs23 ?_
      refine any_R 6 (by kernel_rfl) (fun _ hS_ => runs_load (ad := ⟨b4, 1, none⟩) (v := (.int .i64 gi)) (by kernel_rfl) (hS_.cellAt 0 rfl rfl)) hs23 ?_
      refine any_val (v := (.pointer (some ⟨x.b, 0, none⟩))) (v' := (.pointer (some ⟨x.b, 0, none⟩))) 9 (by kernel_rfl) (fun _ => by kernel_rfl) rfl hs23 ?_
      refine any_R 10 (by kernel_rfl) (fun _ hS_ => runs_loadAgg (ad := ⟨b4, 0, none⟩) (cs := [(.int .i64 gw), (.int .i64 gi), (.int .i64 gb)]) (by kernel_rfl) (cells_sub (hS_.heapAt 0 rfl) rfl)) hs23 ?_
      refine any_val (v := (.pointer (some ⟨b4, 2, none⟩))) (v' := (.pointer (some ⟨b4, 2, none⟩))) 12 (by kernel_rfl) (fun _ => by kernel_rfl) rfl hs23 ?_
      refine any_R 13 (by kernel_rfl) (fun _ hS_ => runs_load (ad := ⟨b4, 2, none⟩) (v := (.int .i64 gb)) (by kernel_rfl) (hS_.cellAt 0 rfl rfl)) hs23 ?_
      refine any_step 4 (by kernel_rfl) (by kernel_rfl) ?_
      refine ops_call0 hs23 (by kernel_rfl) (rmapat_spec (gw := gw) (gi := gi) (gb := gb) B _) ?_
      rintro _ _ w24 ⟨rfl, rfl⟩ hs25
      have hs26 := St.ap0 hs25
      refine ops_done (by kernel_rfl) ⟨hs26, ?_⟩
      refine any_val (v := (.agg #[(.pointer (some ⟨x.b, 0, none⟩)), (.int .i64 (placeOf 6 gw gi gb 0)), (.int .i64 gi)])) (v' := (.agg #[(.pointer (some ⟨x.b, 0, none⟩)), (.int .i64 (placeOf 6 gw gi gb 0)), (.int .i64 gi)])) 7 (by kernel_rfl) (fun _ => by kernel_rfl) rfl hs26 ?_
      refine any_step2 8 11 (by kernel_rfl) (by kernel_rfl) (by kernel_rfl) ?_ ?_
      ·
        refine ops_new (fun b => .pointer (some ⟨b, 0, none⟩)) (.cells [(.pointer (some ⟨x.b, 0, none⟩)), (.int .i64 (placeOf 6 gw gi gb 0)), (.int .i64 gi)].toArray 202 (0, 0)) hs26 (by kernel_rfl) (fun b29 w27 hs28 => ?_)
        have hs30 := St.f1 hs28
        have hs31 := St.tk1 hs30
        refine ops_done (by kernel_rfl) ⟨hs31, ?_⟩
        refine any_step 11 (by kernel_rfl) (by kernel_rfl) ?_
        refine ops_call0 hs28 (by kernel_rfl) (rbmapat_spec (gw := gw) (gi := gi) (gb := gb) B _) ?_
        rintro _ _ w32 ⟨rfl, rfl⟩ hs33
        have hs34 := St.ap0 hs33
        have hs35 := St.f1 hs34
        have hs36 := St.tk1 hs35
        refine ops_done (by kernel_rfl) ⟨hs36, ?_⟩
        refine any_val (v := (.agg #[(.pointer (some ⟨x.b, 0, none⟩)), (.int .i64 (placeOf 7 gw gi gb 0)), (.int .i64 gb)])) (v' := (.agg #[(.pointer (some ⟨x.b, 0, none⟩)), (.int .i64 (placeOf 7 gw gi gb 0)), (.int .i64 gb)])) 14 (by kernel_rfl) (fun _ => by kernel_rfl) rfl hs36 ?_
        refine any_step 15 (by kernel_rfl) (by kernel_rfl) ?_
        refine ops_new (fun b => .pointer (some ⟨b, 0, none⟩)) (.cells [(.pointer (some ⟨x.b, 0, none⟩)), (.int .i64 (placeOf 7 gw gi gb 0)), (.int .i64 gb)].toArray 202 (0, 0)) hs34 (by kernel_rfl) (fun b39 w37 hs38 => ?_)
        have hs40 := St.f2 hs38
        have hs41 := St.tk1 hs40
        refine ops_done (by kernel_rfl) ⟨hs41, ?_⟩
        refine any_val (v := (.agg #[(.pointer (some ⟨x.b, 0, none⟩)), (.int .i64 gw), (.int .i64 gi), (.int .i64 gb), (.pointer (some ⟨b29, 0, none⟩)), (.pointer (some ⟨b39, 0, none⟩))])) (v' := (.agg #[(.pointer (some ⟨x.b, 0, none⟩)), (.int .i64 gw), (.int .i64 gi), (.int .i64 gb), (.pointer (some ⟨b29, 0, none⟩)), (.pointer (some ⟨b39, 0, none⟩))])) 16 (by kernel_rfl) (fun _ => by kernel_rfl) rfl hs41 ?_
        refine any_step 17 (by kernel_rfl) (by kernel_rfl) ?_
        refine ops_new (fun b => .pointer (some ⟨b, 0, none⟩)) (.cells [(.pointer (some ⟨x.b, 0, none⟩)), (.int .i64 gw), (.int .i64 gi), (.int .i64 gb), (.pointer (some ⟨b29, 0, none⟩)), (.pointer (some ⟨b39, 0, none⟩))].toArray 204 (0, 0)) hs38 (by kernel_rfl) (fun b44 w42 hs43 => ?_)
        have hs45 := St.f3 hs43
        have hs46 := St.tk1 hs45
        refine ops_done (by kernel_rfl) ⟨hs46, ?_⟩
        refine any_val (v := (.pointer (some ⟨b44, 0, none⟩))) (v' := (.pointer (some ⟨b44, 0, none⟩))) 18 (by kernel_rfl) (fun _ => by kernel_rfl) rfl hs46 ?_
        refine any_val (v := (.int .i64 0)) (v' := (.int .i64 0)) 19 (by kernel_rfl) (fun _ => by kernel_rfl) rfl hs46 ?_
        refine any_done (by kernel_rfl) ?_
        refine hK22 _ _ ?_
        clear hK22
        refine W.ret ?_
        exfalso
        first | omega | (exact hN ⟨by assumption, by omega⟩)
      ·
        refine ops_call0 hs26 (by kernel_rfl) (rbmapat_spec (gw := gw) (gi := gi) (gb := gb) B _) ?_
        rintro _ _ w47 ⟨rfl, rfl⟩ hs48
        have hs49 := St.ap0 hs48
        refine ops_done (by kernel_rfl) ⟨hs49, ?_⟩
        refine any_val (v := (.agg #[(.pointer (some ⟨x.b, 0, none⟩)), (.int .i64 (placeOf 7 gw gi gb 0)), (.int .i64 gb)])) (v' := (.agg #[(.pointer (some ⟨x.b, 0, none⟩)), (.int .i64 (placeOf 7 gw gi gb 0)), (.int .i64 gb)])) 14 (by kernel_rfl) (fun _ => by kernel_rfl) rfl hs49 ?_
        refine any_step2 8 15 (by kernel_rfl) (by kernel_rfl) (by kernel_rfl) ?_ ?_
        ·
          refine ops_new (fun b => .pointer (some ⟨b, 0, none⟩)) (.cells [(.pointer (some ⟨x.b, 0, none⟩)), (.int .i64 (placeOf 6 gw gi gb 0)), (.int .i64 gi)].toArray 202 (0, 0)) hs49 (by kernel_rfl) (fun b52 w50 hs51 => ?_)
          have hs53 := St.f1 hs51
          have hs54 := St.tk1 hs53
          refine ops_done (by kernel_rfl) ⟨hs54, ?_⟩
          refine any_step 15 (by kernel_rfl) (by kernel_rfl) ?_
          refine ops_new (fun b => .pointer (some ⟨b, 0, none⟩)) (.cells [(.pointer (some ⟨x.b, 0, none⟩)), (.int .i64 (placeOf 7 gw gi gb 0)), (.int .i64 gb)].toArray 202 (0, 0)) hs51 (by kernel_rfl) (fun b57 w55 hs56 => ?_)
          have hs58 := St.f2 hs56
          have hs59 := St.tk1 hs58
          refine ops_done (by kernel_rfl) ⟨hs59, ?_⟩
          refine any_val (v := (.agg #[(.pointer (some ⟨x.b, 0, none⟩)), (.int .i64 gw), (.int .i64 gi), (.int .i64 gb), (.pointer (some ⟨b52, 0, none⟩)), (.pointer (some ⟨b57, 0, none⟩))])) (v' := (.agg #[(.pointer (some ⟨x.b, 0, none⟩)), (.int .i64 gw), (.int .i64 gi), (.int .i64 gb), (.pointer (some ⟨b52, 0, none⟩)), (.pointer (some ⟨b57, 0, none⟩))])) 16 (by kernel_rfl) (fun _ => by kernel_rfl) rfl hs59 ?_
          refine any_step 17 (by kernel_rfl) (by kernel_rfl) ?_
          refine ops_new (fun b => .pointer (some ⟨b, 0, none⟩)) (.cells [(.pointer (some ⟨x.b, 0, none⟩)), (.int .i64 gw), (.int .i64 gi), (.int .i64 gb), (.pointer (some ⟨b52, 0, none⟩)), (.pointer (some ⟨b57, 0, none⟩))].toArray 204 (0, 0)) hs56 (by kernel_rfl) (fun b62 w60 hs61 => ?_)
          have hs63 := St.f3 hs61
          have hs64 := St.tk1 hs63
          refine ops_done (by kernel_rfl) ⟨hs64, ?_⟩
          refine any_val (v := (.pointer (some ⟨b62, 0, none⟩))) (v' := (.pointer (some ⟨b62, 0, none⟩))) 18 (by kernel_rfl) (fun _ => by kernel_rfl) rfl hs64 ?_
          refine any_val (v := (.int .i64 0)) (v' := (.int .i64 0)) 19 (by kernel_rfl) (fun _ => by kernel_rfl) rfl hs64 ?_
          refine any_done (by kernel_rfl) ?_
          refine hK22 _ _ ?_
          clear hK22
          refine W.ret ?_
          exfalso
          first | omega | (exact hN ⟨by assumption, by omega⟩)
        ·
          refine ops_new (fun b => .pointer (some ⟨b, 0, none⟩)) (.cells [(.pointer (some ⟨x.b, 0, none⟩)), (.int .i64 (placeOf 7 gw gi gb 0)), (.int .i64 gb)].toArray 202 (0, 0)) hs49 (by kernel_rfl) (fun b67 w65 hs66 => ?_)
          have hs68 := St.f1 hs66
          have hs69 := St.tk1 hs68
          refine ops_done (by kernel_rfl) ⟨hs69, ?_⟩
          refine any_step 8 (by kernel_rfl) (by kernel_rfl) ?_
          refine ops_new (fun b => .pointer (some ⟨b, 0, none⟩)) (.cells [(.pointer (some ⟨x.b, 0, none⟩)), (.int .i64 (placeOf 6 gw gi gb 0)), (.int .i64 gi)].toArray 202 (0, 0)) hs66 (by kernel_rfl) (fun b72 w70 hs71 => ?_)
          have hs73 := St.f2 hs71
          have hs74 := St.tk1 hs73
          refine ops_done (by kernel_rfl) ⟨hs74, ?_⟩
          refine any_val (v := (.agg #[(.pointer (some ⟨x.b, 0, none⟩)), (.int .i64 gw), (.int .i64 gi), (.int .i64 gb), (.pointer (some ⟨b72, 0, none⟩)), (.pointer (some ⟨b67, 0, none⟩))])) (v' := (.agg #[(.pointer (some ⟨x.b, 0, none⟩)), (.int .i64 gw), (.int .i64 gi), (.int .i64 gb), (.pointer (some ⟨b72, 0, none⟩)), (.pointer (some ⟨b67, 0, none⟩))])) 16 (by kernel_rfl) (fun _ => by kernel_rfl) rfl hs74 ?_
          refine any_step 17 (by kernel_rfl) (by kernel_rfl) ?_
          refine ops_new (fun b => .pointer (some ⟨b, 0, none⟩)) (.cells [(.pointer (some ⟨x.b, 0, none⟩)), (.int .i64 gw), (.int .i64 gi), (.int .i64 gb), (.pointer (some ⟨b72, 0, none⟩)), (.pointer (some ⟨b67, 0, none⟩))].toArray 204 (0, 0)) hs71 (by kernel_rfl) (fun b77 w75 hs76 => ?_)
          have hs78 := St.f3 hs76
          have hs79 := St.tk1 hs78
          refine ops_done (by kernel_rfl) ⟨hs79, ?_⟩
          refine any_val (v := (.pointer (some ⟨b77, 0, none⟩))) (v' := (.pointer (some ⟨b77, 0, none⟩))) 18 (by kernel_rfl) (fun _ => by kernel_rfl) rfl hs79 ?_
          refine any_val (v := (.int .i64 0)) (v' := (.int .i64 0)) 19 (by kernel_rfl) (fun _ => by kernel_rfl) rfl hs79 ?_
          refine any_done (by kernel_rfl) ?_
          refine hK22 _ _ ?_
          clear hK22
          refine W.ret ?_
          exfalso
          first | omega | (exact hN ⟨by assumption, by omega⟩)

set_option maxRecDepth 20000 in
theorem anew_nil {gw gi gb : Int} (B : Nat) (w : World) : Spec Tryd.prog 55 #[(.pointer none), (.agg #[(.int .i64 gw), (.int .i64 gi), (.int .i64 gb)])] B w [] (fun v H' => v = .tuple #[.pointer none, .int .i64 2] ∧ H' = []) := by
  refine spec_Q Tryd.func55 rfl fun hs => ?_
  refine W.seq fun K1 hK1 => ?_
  refine W.region ?_
  refine ops_new (fun b => .pointer (some ⟨b, 0, none⟩)) (.cells [(.int .i64 gw), (.int .i64 gi), (.int .i64 gb)].toArray 63 (0, 0)) hs (by kernel_rfl) (fun b4 w2 hs3 => ?_)
  refine ops_run 2 (by kernel_rfl) ?_
  refine ops_done (by kernel_rfl) ?_
  refine hK1 _ _ ?_
  clear hK1
  refine W.seq fun K5 hK5 => ?_
  refine W.block ?_
  refine W.seq fun K6 hK6 => ?_
  refine W.region ?_
  refine ops_run 3 (by kernel_rfl) ?_
  refine ops_done (by kernel_rfl) ?_
  refine hK6 _ _ ?_
  clear hK6
  refine W.cond_true true (by kernel_rfl) rfl ?_
  refine W.seq fun K7 hK7 => ?_
  refine W.region ?_
  refine ops_run 2 (by kernel_rfl) ?_
  refine ops_done (by kernel_rfl) ?_
  refine hK7 _ _ ?_
  clear hK7
  refine W.ret (ret_block (ret_seq ?_))
  have hs8 := St.tk0 hs3
  refine ret_of (.tuple #[(.pointer none), (.int .i64 2)]) (by kernel_rfl) ⟨_, ⟨rfl, rfl⟩, hs8⟩

end Go.Proofs.YthimamnblklkbaaDoor

/- What the code computes, by a program. -/
namespace Go.Proofs.YthimamnblklkbaaDoor
open Go Go.RowKit
set_option linter.unusedSimpArgs false
set_option linter.unusedVariables false

def pfree_M (img : List Int) (l : List (Int × Int)) (at_ : Int) (many : Int) (pm : Int) : Option (Int) :=
  (mcount_M img l at_ many).bind fun r7 =>
need (-9223372036854775808 ≤ (pm - r7) ∧ (pm - r7) ≤ 9223372036854775807) <|
some (pm - r7)

set_option maxRecDepth 20000 in
set_option linter.unusedVariables false in
theorem pfree_walk {img : List Int} {l : List (Int × Int)} {at_ : Int} {many : Int} {pm : Int} {mb vb : Nat} {r : Int} (B : Nat) (w : World) (hmb : w.heap[mb]? = some (.cells [(.pointer (some ⟨vb, 0, none⟩)), (.int .i64 at_), (.int .i64 many)].toArray 151 (0, 0))) (hv : ViewAt (ptr vb) img l w) (hm : pfree_M img l at_ many pm = some r) : Spec Tryd.prog 124 #[(.agg #[(.pointer (some ⟨mb, 0, none⟩)), (.int .i64 pm)])] B w [] (fun v H' => v = .int .i64 r ∧ H' = []) := by
  refine spec_Q Tryd.func124 rfl fun hs => ?_
  unfold pfree_M at hm
  refine W.seq fun K1 hK1 => ?_
  refine W.region ?_
  refine ops_new (fun b => .pointer (some ⟨b, 0, none⟩)) (.cells [(.pointer (some ⟨mb, 0, none⟩)), (.int .i64 pm)].toArray 186 (0, 0)) hs (by kernel_rfl) (fun b4 w2 hs3 => ?_)
  refine ops_run 1 (by kernel_rfl) ?_
  refine ops_done (by kernel_rfl) ?_
  refine hK1 _ _ ?_
  clear hK1
  refine W.seq fun K5 hK5 => ?_
  have hs6 := hs3.drew
  refine W.regionD [(0, 0), (1, 1), (0, 0), (4, 4), (8, 8), (18, 18), (63, 32)] (fun w_ => St B w [] w_ [blk b4 (.cells [(.pointer (some ⟨mb, 0, none⟩)), (.int .i64 pm)].toArray 186 (0, 0))]) (by kernel_rfl) hs6 ?_
  refine any_val (v := (.pointer (some ⟨b4, 1, none⟩))) (v' := (.pointer (some ⟨b4, 1, none⟩))) 0 (by kernel_rfl) (fun _ => by kernel_rfl) rfl hs6 ?_
  refine any_R 1 (by kernel_rfl) (fun _ hS_ => runs_load (ad := ⟨b4, 1, none⟩) (v := (.int .i64 pm)) (by kernel_rfl) (hS_.cellAt 0 rfl rfl)) hs6 ?_
  refine any_val (v := (.pointer (some ⟨b4, 0, none⟩))) (v' := (.pointer (some ⟨b4, 0, none⟩))) 2 (by kernel_rfl) (fun _ => by kernel_rfl) rfl hs6 ?_
  refine any_R 3 (by kernel_rfl) (fun _ hS_ => runs_load (ad := ⟨b4, 0, none⟩) (v := (.pointer (some ⟨mb, 0, none⟩))) (by kernel_rfl) (hS_.cellAt 0 rfl rfl)) hs6 ?_
  refine any_step 4 (by kernel_rfl) (by kernel_rfl) ?_
  obtain ⟨r7, h8, hm⟩ := bind_some hm
  refine ops_call0 hs6 (by kernel_rfl) (mcount_walk (hmb := (hs6.old hmb)) (hv := (viewAt_old hs6 hv)) (hm := h8) B _) ?_
  rintro _ _ w9 ⟨rfl, rfl⟩ hs10
  have hs11 := St.ap0 hs10
  refine ops_done (by kernel_rfl) ⟨hs11, ?_⟩
  obtain ⟨h12, hm⟩ := need_some hm
  refine any_val (v := .int .i64 (IntKind.i64.wrap (pm - r7))) (v' := .int .i64 (pm - r7)) 5 (by kernel_rfl) (fun _ => by kernel_rfl) (congrArg (Value.int .i64) (wrap_i64 h12.1 h12.2)) hs11 ?_
  refine any_val (v := (.int .i64 (pm - r7))) (v' := (.int .i64 (pm - r7))) 6 (by kernel_rfl) (fun _ => by kernel_rfl) rfl hs11 ?_
  refine any_done (by kernel_rfl) ?_
  refine hK5 _ _ ?_
  clear hK5
  refine W.ret ?_
  obtain rfl := some_inj hm
  have hs13 := St.tk0 hs11
  refine ret_of (.int .i64 (pm - r7)) (by kernel_rfl) ⟨_, ⟨rfl, rfl⟩, hs13⟩

def pgive_J1 (img : List Int) (l : List (Int × Int)) (at_ : Int) (many : Int) (n_ : Int) (p6 : Bool) : Option (Int × List (Int × Int)) :=
  if p6 = true then (some (1, l)) else ((mget_M img l at_ many n_).bind fun r14 =>
if r14 = true then ((mset_M img l at_ many n_ false).bind fun r21 =>
some (r21.1, r21.2)) else (some (3, l)))

def pgive_M (img : List Int) (l : List (Int × Int)) (at_ : Int) (many : Int) (pm : Int) (n_ : Int) : Option (Int × List (Int × Int)) :=
  if n_ < 1 then (pgive_J1 img l at_ many n_ (decide (n_ < 1))) else (pgive_J1 img l at_ many n_ (decide (n_ ≥ pm)))

set_option maxRecDepth 20000 in
set_option linter.unusedVariables false in
theorem pgive_walk {img : List Int} {l : List (Int × Int)} {at_ : Int} {many : Int} {pm : Int} {n_ : Int} {mb vb : Nat} {r : Int × List (Int × Int)} (B : Nat) (w : World) (hm : pgive_M img l at_ many pm n_ = some r) : Spec Tryd.prog 127 #[(.agg #[(.pointer (some ⟨mb, 0, none⟩)), (.int .i64 pm)]), (.int .i64 n_)] B w [blk mb (.cells [(.pointer (some ⟨vb, 0, none⟩)), (.int .i64 at_), (.int .i64 many)].toArray 151 (0, 0)), viewA (ptr vb) img l] (fun v H' => v = .int .i64 r.1 ∧ H' = [blk mb (.cells [(.pointer (some ⟨vb, 0, none⟩)), (.int .i64 at_), (.int .i64 many)].toArray 151 (0, 0)), viewA (ptr vb) img r.2]) := by
  refine spec_W Tryd.func127 rfl fun l0 hs => ?_
  unfold pgive_M at hm
  refine W.seq fun K1 hK1 => ?_
  refine W.region ?_
  refine ops_new (fun b => .pointer (some ⟨b, 0, none⟩)) (.cells [(.pointer (some ⟨mb, 0, none⟩)), (.int .i64 pm)].toArray 186 (0, 0)) hs (by kernel_rfl) (fun b4 w2 hs3 => ?_)
  refine ops_run 1 (by kernel_rfl) ?_
  refine ops_done (by kernel_rfl) ?_
  refine hK1 _ _ ?_
  clear hK1
  refine W.seq fun K5 hK5 => ?_
  refine W.block ?_
  refine W.seq_join (fun s_ w_ => ∃ (p6 : Bool), (∃ us, s_ = slots 22 [(1, (.int .i64 n_)), (2, (.pointer (some ⟨b4, 0, none⟩))), (5, (.bool p6))] us) ∧ St B w l0 w_ [viewA (ptr vb) img l, blk mb (.cells [(.pointer (some ⟨vb, 0, none⟩)), (.int .i64 at_), (.int .i64 many)].toArray 151 (0, 0)), blk b4 (.cells [(.pointer (some ⟨mb, 0, none⟩)), (.int .i64 pm)].toArray 186 (0, 0))] ∧ pgive_J1 img l at_ many n_ p6 = some r) ?_ ?_
  ·
    rintro _ w7 ⟨p6, ⟨us, rfl⟩, hs8, hm⟩
    unfold pgive_J1 at hm
    refine W.cond p6 (by kernel_rfl) (fun h9 => ?_) (fun h9 => ?_)
    ·
      have h9p : p6 = true := h9
      replace hm := ite_yes hm h9p
      refine W.seq fun K10 hK10 => ?_
      refine W.region ?_
      refine ops_run 1 (by kernel_rfl) ?_
      refine ops_done (by kernel_rfl) ?_
      refine hK10 _ _ ?_
      clear hK10
      refine W.ret (ret_block (ret_seq ?_))
      obtain rfl := some_inj hm
      have hs11 := St.f1 hs8
      have hs12 := St.tk2 hs11
      refine ret_of (.int .i64 1) (by kernel_rfl) ⟨_, ⟨rfl, rfl⟩, hs12⟩
    ·
      have h9p : ¬ (p6 = true) := ne_true_of_eq_false h9
      replace hm := ite_no hm h9p
      refine W.seq fun K13 hK13 => ?_
      refine W.region ?_
      refine ops_run 1 (by kernel_rfl) ?_
      refine ops_R (runs_load (ad := ⟨b4, 0, none⟩) (v := (.pointer (some ⟨mb, 0, none⟩))) (by kernel_rfl) (hs8.cellAt 2 rfl rfl)) ?_
      refine ops_run 1 (by kernel_rfl) ?_
      obtain ⟨r14, h15, hm⟩ := bind_some hm
      refine ops_call0 hs8 (by kernel_rfl) (mget_walk (hmb := (hs8.heapAt 1 rfl)) (hv := (hs8.entAt 0 rfl viewA_at)) (hm := h15) B _) ?_
      rintro _ _ w16 ⟨rfl, rfl⟩ hs17
      have hs18 := St.ap0 hs17
      refine ops_run 2 (by kernel_rfl) ?_
      refine ops_done (by kernel_rfl) ?_
      refine hK13 _ _ ?_
      clear hK13
      refine W.cond (!r14) (by kernel_rfl) (fun h19 => ?_) (fun h19 => ?_)
      rotate_left
      ·
        have h19p : r14 = true := (bnot_false h19)
        replace hm := ite_yes hm h19p
        refine W.skip ?_
        refine normal_block ?_
        refine hK5 _ _ ?_
        clear hK5
        refine W.seq fun K20 hK20 => ?_
        refine W.region ?_
        refine ops_run 1 (by kernel_rfl) ?_
        refine ops_R (runs_load (ad := ⟨b4, 0, none⟩) (v := (.pointer (some ⟨mb, 0, none⟩))) (by kernel_rfl) (hs18.cellAt 2 rfl rfl)) ?_
        refine ops_run 1 (by kernel_rfl) ?_
        obtain ⟨r21, h22, hm⟩ := bind_some hm
        have hs23 := St.f1 hs18
        refine ops_call2 hs23 (by kernel_rfl) (mset_walk (hm := h22) B _) ?_
        rintro _ _ w24 ⟨rfl, rfl⟩ hs25
        have hs26 := St.ap2 hs25
        refine ops_run 1 (by kernel_rfl) ?_
        refine ops_done (by kernel_rfl) ?_
        refine hK20 _ _ ?_
        clear hK20
        refine W.ret ?_
        obtain rfl := some_inj hm
        have hs27 := St.f1 hs26
        have hs28 := St.f1 hs27
        have hs29 := St.tk2 hs28
        refine ret_of (.int .i64 r21.1) (by kernel_rfl) ⟨_, ⟨rfl, rfl⟩, hs29⟩
      ·
        have h19p : ¬ (r14 = true) := ne_true_of_eq_false (bnot_true h19)
        replace hm := ite_no hm h19p
        refine W.seq fun K30 hK30 => ?_
        refine W.region ?_
        refine ops_run 1 (by kernel_rfl) ?_
        refine ops_done (by kernel_rfl) ?_
        refine hK30 _ _ ?_
        clear hK30
        refine W.ret (ret_block (ret_seq ?_))
        obtain rfl := some_inj hm
        have hs31 := St.f1 hs18
        have hs32 := St.tk2 hs31
        refine ret_of (.int .i64 3) (by kernel_rfl) ⟨_, ⟨rfl, rfl⟩, hs32⟩
  ·
    refine W.seq fun K33 hK33 => ?_
    refine W.region ?_
    refine ops_run 3 (by kernel_rfl) ?_
    refine ops_done (by kernel_rfl) ?_
    refine hK33 _ _ ?_
    clear hK33
    refine W.cond (decide (n_ < 1)) (by kernel_rfl) (fun h34 => ?_) (fun h34 => ?_)
    ·
      have h34p : n_ < 1 := of_decide_eq_true h34
      replace hm := ite_yes hm h34p
      refine W.skip ?_
      have hs35 := St.f1 hs3
      have hs36 := St.f2 hs35
      exact ⟨(decide (n_ < 1)), slots_intro _ (by kernel_rfl), hs36, hm⟩
    ·
      have h34p : ¬ (n_ < 1) := of_decide_eq_false h34
      replace hm := ite_no hm h34p
      refine W.region ?_
      refine ops_run 2 (by kernel_rfl) ?_
      refine ops_R (runs_load (ad := ⟨b4, 1, none⟩) (v := (.int .i64 pm)) (by kernel_rfl) (hs3.cellAt 0 rfl rfl)) ?_
      refine ops_run 2 (by kernel_rfl) ?_
      refine ops_done (by kernel_rfl) ?_
      have hs37 := St.f1 hs3
      have hs38 := St.f2 hs37
      exact ⟨(decide (n_ ≥ pm)), slots_intro _ (by kernel_rfl), hs38, hm⟩

def aclear_B0 (img : List Int) (ns : List Int) (k6 : ((List (Int × Int)) × Int) → Option (Int × List (Int × Int))) (l4 : List (Int × Int)) (p5 : Int) : Option (Int × List (Int × Int)) :=
  if p5 < (ns.length : Int) then (need (0 ≤ p5 ∧ p5 < (ns.length : Int)) <|
(some (vput img l4 (ns.getD p5.toNat 0) 0)).bind fun r21 =>
if r21.1 = 0 then (need (-9223372036854775808 ≤ (p5 + 1) ∧ (p5 + 1) ≤ 9223372036854775807) <|
k6 (r21.2, (p5 + 1))) else (some (r21.1, r21.2))) else (some (0, l4))

def aclear_M (img : List Int) (l : List (Int × Int)) (ns : List Int) : Option (Int × List (Int × Int)) :=
  iter (fun k_ s_ => aclear_B0 img ns k_ s_.1 s_.2) FUEL (l, 0)

set_option maxRecDepth 20000 in
set_option linter.unusedVariables false in
theorem aclear_walk {img : List Int} {l : List (Int × Int)} {gw : Int} {gi : Int} {gb : Int} {ns : List Int} {ab ib bb vb : Nat} {wa : Option Addr} {wc : Nat} {r : Int × List (Int × Int)} (B : Nat) (w : World) (hm : aclear_M img l ns = some r) : Spec Tryd.prog 152 #[(.pointer (some ⟨ab, 0, none⟩)), (.slice wa ns.length wc)] B w [blk ab (.cells [(.pointer (some ⟨vb, 0, none⟩)), (.int .i64 gw), (.int .i64 gi), (.int .i64 gb), (.pointer (some ⟨ib, 0, none⟩)), (.int .i64 gi), (.pointer (some ⟨bb, 0, none⟩)), (.int .i64 gb)].toArray 188 (0, 0)), kInt.row wa wc ns, viewA (ptr vb) img l] (fun v H' => v = .int .i64 r.1 ∧ H' = [blk ab (.cells [(.pointer (some ⟨vb, 0, none⟩)), (.int .i64 gw), (.int .i64 gi), (.int .i64 gb), (.pointer (some ⟨ib, 0, none⟩)), (.int .i64 gi), (.pointer (some ⟨bb, 0, none⟩)), (.int .i64 gb)].toArray 188 (0, 0)), kInt.row wa wc ns, viewA (ptr vb) img r.2]) := by
  refine spec_W Tryd.func152 rfl fun l0 hs => ?_
  unfold aclear_M at hm
  refine W.seq fun K1 hK1 => ?_
  refine W.region ?_
  refine ops_run 1 (by kernel_rfl) ?_
  refine ops_done (by kernel_rfl) ?_
  refine hK1 _ _ ?_
  clear hK1
  refine W.seq fun K2 hK2 => ?_
  refine W.seq fun K3 hK3 => ?_
  refine W.region ?_
  refine ops_run 3 (by kernel_rfl) ?_
  refine ops_done (by kernel_rfl) ?_
  refine hK3 _ _ ?_
  clear hK3
  refine W.block ?_
  have hs10 := St.f1 hs
  have hs11 := St.f1 hs10
  have hs12 := St.f2 hs11
  refine W.loop_iter (G := (List (Int × Int)) × Int) (σ := (List (Int × Int)) × Int) (fun | (l4, p5) => (l4, p5)) (fun | (l4, p5), s_, w_ => (∃ us, s_ = slots 24 [(0, (.pointer (some ⟨ab, 0, none⟩))), (8, (.slice wa ns.length wc)), (9, (.int .i64 (ns.length : Int))), (10, (.int .i64 p5))] us) ∧ St B w l0 w_ [viewA (ptr vb) img l4, blk ab (.cells [(.pointer (some ⟨vb, 0, none⟩)), (.int .i64 gw), (.int .i64 gi), (.int .i64 gb), (.pointer (some ⟨ib, 0, none⟩)), (.int .i64 gi), (.pointer (some ⟨bb, 0, none⟩)), (.int .i64 gb)].toArray 188 (0, 0)), kInt.row wa wc ns]) (l, 0) ⟨slots_intro _ (by kernel_rfl), hs12⟩ hm ?_
  rintro k6 ih7 ⟨l4, p5⟩ _ w8 ⟨⟨us, rfl⟩, hs9⟩ hm
  replace hm : aclear_B0 img ns k6 l4 p5 = some r := hm
  unfold aclear_B0 at hm
  refine W.seq fun K13 hK13 => ?_
  refine W.region ?_
  refine ops_run 1 (by kernel_rfl) ?_
  refine ops_done (by kernel_rfl) ?_
  refine hK13 _ _ ?_
  clear hK13
  refine W.seq fun K14 hK14 => ?_
  refine W.cond (decide (p5 < (ns.length : Int))) (by kernel_rfl) (fun h15 => ?_) (fun h15 => ?_)
  ·
    have h15p : p5 < (ns.length : Int) := of_decide_eq_true h15
    replace hm := ite_yes hm h15p
    refine W.skip ?_
    refine hK14 _ _ ?_
    clear hK14
    refine W.seq fun K16 hK16 => ?_
    refine W.block ?_
    refine W.seq fun K17 hK17 => ?_
    refine W.region ?_
    obtain ⟨h19, hm⟩ := need_some hm
    have hk18 := lt_toNat h19
    refine ops_R (runs_index (a := wa) (n := ns.length) (z := p5) (size := 1) p5.toNat (nat_of h19.1) hk18 (kInt.addr (St.kcells kInt hs9 2 rfl) hk18) (by kernel_rfl)) ?_
    refine ops_R (runs_load (ad := ((adr wa (p5.toNat * 1)).add 0)) (v := (.int .i64 (ns.getD p5.toNat 0))) (by kernel_rfl) (kInt.at (St.kcells kInt hs9 2 rfl) hk18 0 0 rfl)) ?_
    refine ops_run 1 (by kernel_rfl) ?_
    refine ops_done (by kernel_rfl) ?_
    refine hK17 _ _ ?_
    clear hK17
    refine W.seq fun K20 hK20 => ?_
    refine W.region ?_
    refine ops_run 3 (by kernel_rfl) ?_
    refine ops_R (runs_load (ad := ⟨ab, 0, none⟩) (v := (.pointer (some ⟨vb, 0, none⟩))) (by kernel_rfl) (hs9.cellAt 1 rfl rfl)) ?_
    refine ops_run 1 (by kernel_rfl) ?_
    obtain ⟨r21, h22, hm⟩ := bind_some hm
    replace h22 := some_inj h22
    refine ops_call1 hs9 (by kernel_rfl) (put_spec (p := (.pointer (some ⟨vb, 0, none⟩))) (img := img) (l := l4) (at_ := (ns.getD p5.toNat 0)) (x_ := 0) B _) ?_
    rintro _ _ w25 ⟨hv23, hH24⟩ hs26
    rw [h22] at hv23
    try rw [h22] at hH24
    subst hv23 hH24
    have hs27 := St.ap1 hs26
    refine ops_run 1 (by kernel_rfl) ?_
    refine ops_done (by kernel_rfl) ?_
    refine hK20 _ _ ?_
    clear hK20
    refine W.seq fun K28 hK28 => ?_
    refine W.region ?_
    refine ops_run 2 (by kernel_rfl) ?_
    refine ops_done (by kernel_rfl) ?_
    refine hK28 _ _ ?_
    clear hK28
    refine W.cond (!decide (r21.1 = 0)) (by kernel_rfl) (fun h29 => ?_) (fun h29 => ?_)
    rotate_left
    ·
      have h29p : r21.1 = 0 := of_decide_eq_true (bnot_false h29)
      replace hm := ite_yes hm h29p
      refine W.skip ?_
      refine normal_block ?_
      refine hK16 _ _ ?_
      clear hK16
      refine W.region ?_
      obtain ⟨h30, hm⟩ := need_some hm
      refine ops_val (v := .int .i64 (IntKind.i64.wrap (p5 + 1))) (v' := .int .i64 (p5 + 1)) (by kernel_rfl) (congrArg (Value.int .i64) (wrap_i64 h30.1 h30.2)) ?_
      refine ops_run 1 (by kernel_rfl) ?_
      refine ops_done (by kernel_rfl) ?_
      refine loopAt_next ?_
      exact ih7 (r21.2, (p5 + 1)) _ _ ⟨slots_intro _ (by kernel_rfl), hs27⟩ hm
    ·
      have h29p : ¬ (r21.1 = 0) := of_decide_eq_false (bnot_true h29)
      replace hm := ite_no hm h29p
      refine W.seq fun K31 hK31 => ?_
      refine W.region ?_
      refine ops_run 2 (by kernel_rfl) ?_
      refine ops_done (by kernel_rfl) ?_
      refine hK31 _ _ ?_
      clear hK31
      refine W.ret (ret_block (ret_seq (ret_seq (ret_block (ret_seq ?_)))))
      obtain rfl := some_inj hm
      have hs32 := St.f2 hs27
      have hs33 := St.f2 hs32
      refine ret_of (.int .i64 r21.1) (by kernel_rfl) ⟨_, ⟨rfl, rfl⟩, hs33⟩
  ·
    have h15p : ¬ (p5 < (ns.length : Int)) := of_decide_eq_false h15
    replace hm := ite_no hm h15p
    refine W.exit (exit_seq (exit_seq (exit_here ?_)))
    refine hK2 _ _ ?_
    clear hK2
    refine W.seq fun K34 hK34 => ?_
    refine W.region ?_
    refine ops_run 1 (by kernel_rfl) ?_
    refine ops_done (by kernel_rfl) ?_
    refine hK34 _ _ ?_
    clear hK34
    refine W.ret ?_
    obtain rfl := some_inj hm
    have hs35 := St.f2 hs9
    have hs36 := St.f2 hs35
    refine ret_of (.int .i64 0) (by kernel_rfl) ⟨_, ⟨rfl, rfl⟩, hs36⟩

end Go.Proofs.YthimamnblklkbaaDoor

/- Contracts of layer 7, by a program. -/
namespace Go.Proofs.YthimamnblklkbaaDoor
open Go Go.RowKit
set_option linter.unusedSimpArgs false
set_option linter.unusedVariables false

set_option maxRecDepth 20000 in
theorem own_spec {ab cb vb ib bb : Nat} {gw gi gb n_ : Int} (B : Nat) (w : World) (hpl : -1000000 ≤ (placeOf 9 gw gi gb n_) ∧ (placeOf 9 gw gi gb n_) ≤ 1000000) (hcb : w.heap[cb]? = some (.cells [(.pointer (some ⟨ab, 0, none⟩))].toArray 92 (0, 0))) (hab : w.heap[ab]? = some (.cells [(.pointer (some ⟨vb, 0, none⟩)), (.int .i64 gw), (.int .i64 gi), (.int .i64 gb), (.pointer (some ⟨ib, 0, none⟩)), (.int .i64 gi), (.pointer (some ⟨bb, 0, none⟩)), (.int .i64 gb)].toArray 188 (0, 0))) : Spec Tryd.prog 126 #[(.int .i64 n_), (.pointer (some ⟨cb, 0, none⟩))] B w [] (fun v H' => ∃ a' c', v = .slice a' 8 c' ∧ H' = [kInt.row a' c' [((placeOf 9 gw gi gb n_) + 0), ((placeOf 9 gw gi gb n_) + 1), ((placeOf 9 gw gi gb n_) + 2), ((placeOf 9 gw gi gb n_) + 3), ((placeOf 9 gw gi gb n_) + 4), ((placeOf 9 gw gi gb n_) + 5), ((placeOf 9 gw gi gb n_) + 6), ((placeOf 9 gw gi gb n_) + 7)]]) := by
  refine spec_Q Tryd.func126 rfl fun hs => ?_
  refine W.seq fun K1 hK1 => ?_
  refine W.region ?_
  refine ops_run 1 (by kernel_rfl) ?_
  refine ops_done (by kernel_rfl) ?_
  refine hK1 _ _ ?_
  clear hK1
  refine W.seq fun K2 hK2 => ?_
  refine W.region ?_
  refine ops_R (runs_load (ad := ⟨cb, 0, none⟩) (v := (.pointer (some ⟨ab, 0, none⟩))) (by kernel_rfl) (cell_of_blk (hs.old hcb) rfl)) ?_
  refine ops_run 2 (by kernel_rfl) ?_
  refine ops_R (runs_loadAgg (ad := ⟨ab, 1, none⟩) (cs := [(.int .i64 gw), (.int .i64 gi), (.int .i64 gb)]) (by kernel_rfl) (cells_sub (hs.old hab) rfl)) ?_
  refine ops_run 1 (by kernel_rfl) ?_
  refine ops_call0 hs (by kernel_rfl) (blockat_spec (gw := gw) (gi := gi) (gb := gb) (n_ := n_) B _) ?_
  rintro _ _ w3 ⟨rfl, rfl⟩ hs4
  have hs5 := St.ap0 hs4
  refine ops_run 1 (by kernel_rfl) ?_
  refine ops_done (by kernel_rfl) ?_
  refine hK2 _ _ ?_
  clear hK2
  refine W.seq fun K6 hK6 => ?_
  refine W.seq fun K7 hK7 => ?_
  refine W.region ?_
  refine ops_run 1 (by kernel_rfl) ?_
  refine ops_done (by kernel_rfl) ?_
  refine hK7 _ _ ?_
  clear hK7
  refine W.block ?_
  refine W.loop_start ?_
  refine loopAt_round ?_
  refine W.seq fun K8 hK8 => ?_
  refine W.region ?_
  refine ops_run 1 (by kernel_rfl) ?_
  refine ops_done (by kernel_rfl) ?_
  refine hK8 _ _ ?_
  clear hK8
  refine W.seq fun K9 hK9 => ?_
  refine W.cond_true true (by kernel_rfl) rfl ?_
  refine W.skip ?_
  refine hK9 _ _ ?_
  clear hK9
  refine W.seq fun K10 hK10 => ?_
  refine W.block ?_
  refine W.seq fun K11 hK11 => ?_
  refine W.region ?_
  refine ops_run 2 (by kernel_rfl) ?_
  refine ops_done (by kernel_rfl) ?_
  refine hK11 _ _ ?_
  clear hK11
  refine W.region ?_
  refine ops_run 3 (by kernel_rfl) ?_
  have h12 : -9223372036854775808 ≤ ((placeOf 9 gw gi gb n_) + 0) ∧ ((placeOf 9 gw gi gb n_) + 0) ≤ 9223372036854775807 := by omega
  refine ops_val (v := .int .i64 (IntKind.i64.wrap ((placeOf 9 gw gi gb n_) + 0))) (v' := .int .i64 ((placeOf 9 gw gi gb n_) + 0)) (by kernel_rfl) (congrArg (Value.int .i64) (wrap_i64 h12.1 h12.2)) ?_
  refine ops_new (fun b => .slice (some ⟨b, 0, none⟩) 1 1) (.cells [(.int .i64 ((placeOf 9 gw gi gb n_) + 0))].toArray 3 (0, 0)) hs5 (by kernel_rfl) (fun b15 w13 hs14 => ?_)
  have hs16 := St.knil kInt hs14
  refine ops_appendK kInt (bytes := 8) (a' := (some ⟨b15, 0, none⟩)) (c' := 1) (l := []) (m := [((placeOf 9 gw gi gb n_) + 0)]) hs16 (by kernel_rfl) (by simp) (cells_blk (hs16.heapAt 1 rfl)) (by (unfold maxLen; try simp) <;> (simp only [List.length_cons, List.length_nil]; omega)) (by (try simp) <;> (simp only [List.length_cons, List.length_nil]; omega)) (fun a17 c18 w19 hs20 => ?_)
  have hs21 : St B w [] w19 [kInt.row a17 c18 ([((placeOf 9 gw gi gb n_) + 0)]), blk b15 (.cells [(.int .i64 ((placeOf 9 gw gi gb n_) + 0))].toArray 3 (0, 0))] := hs20
  refine ops_run 1 (by kernel_rfl) ?_
  refine ops_done (by kernel_rfl) ?_
  refine normal_block ?_
  refine hK10 _ _ ?_
  clear hK10
  refine W.region ?_
  refine ops_run 2 (by kernel_rfl) ?_
  refine ops_done (by kernel_rfl) ?_
  refine loopAt_next ?_
  refine loopAt_round ?_
  refine W.seq fun K22 hK22 => ?_
  refine W.region ?_
  refine ops_run 1 (by kernel_rfl) ?_
  refine ops_done (by kernel_rfl) ?_
  refine hK22 _ _ ?_
  clear hK22
  refine W.seq fun K23 hK23 => ?_
  refine W.cond_true true (by kernel_rfl) rfl ?_
  refine W.skip ?_
  refine hK23 _ _ ?_
  clear hK23
  refine W.seq fun K24 hK24 => ?_
  refine W.block ?_
  refine W.seq fun K25 hK25 => ?_
  refine W.region ?_
  refine ops_run 2 (by kernel_rfl) ?_
  refine ops_done (by kernel_rfl) ?_
  refine hK25 _ _ ?_
  clear hK25
  refine W.region ?_
  refine ops_run 3 (by kernel_rfl) ?_
  have h26 : -9223372036854775808 ≤ ((placeOf 9 gw gi gb n_) + 1) ∧ ((placeOf 9 gw gi gb n_) + 1) ≤ 9223372036854775807 := by omega
  refine ops_val (v := .int .i64 (IntKind.i64.wrap ((placeOf 9 gw gi gb n_) + 1))) (v' := .int .i64 ((placeOf 9 gw gi gb n_) + 1)) (by kernel_rfl) (congrArg (Value.int .i64) (wrap_i64 h26.1 h26.2)) ?_
  refine ops_new (fun b => .slice (some ⟨b, 0, none⟩) 1 1) (.cells [(.int .i64 ((placeOf 9 gw gi gb n_) + 1))].toArray 3 (0, 0)) hs21 (by kernel_rfl) (fun b29 w27 hs28 => ?_)
  have hs30 := St.f1 hs28
  refine ops_appendK kInt (bytes := 8) (a' := (some ⟨b29, 0, none⟩)) (c' := 1) (l := [((placeOf 9 gw gi gb n_) + 0)]) (m := [((placeOf 9 gw gi gb n_) + 1)]) hs30 (by kernel_rfl) (by simp) (cells_blk (hs30.heapAt 1 rfl)) (by (unfold maxLen; try simp) <;> (simp only [List.length_cons, List.length_nil]; omega)) (by (try simp) <;> (simp only [List.length_cons, List.length_nil]; omega)) (fun a31 c32 w33 hs34 => ?_)
  refine ops_run 1 (by kernel_rfl) ?_
  refine ops_done (by kernel_rfl) ?_
  refine normal_block ?_
  refine hK24 _ _ ?_
  clear hK24
  refine W.region ?_
  refine ops_run 2 (by kernel_rfl) ?_
  refine ops_done (by kernel_rfl) ?_
  refine loopAt_next ?_
  refine loopAt_round ?_
  refine W.seq fun K35 hK35 => ?_
  refine W.region ?_
  refine ops_run 1 (by kernel_rfl) ?_
  refine ops_done (by kernel_rfl) ?_
  refine hK35 _ _ ?_
  clear hK35
  refine W.seq fun K36 hK36 => ?_
  refine W.cond_true true (by kernel_rfl) rfl ?_
  refine W.skip ?_
  refine hK36 _ _ ?_
  clear hK36
  refine W.seq fun K37 hK37 => ?_
  refine W.block ?_
  refine W.seq fun K38 hK38 => ?_
  refine W.region ?_
  refine ops_run 2 (by kernel_rfl) ?_
  refine ops_done (by kernel_rfl) ?_
  refine hK38 _ _ ?_
  clear hK38
  refine W.region ?_
  refine ops_run 3 (by kernel_rfl) ?_
  have h39 : -9223372036854775808 ≤ ((placeOf 9 gw gi gb n_) + 2) ∧ ((placeOf 9 gw gi gb n_) + 2) ≤ 9223372036854775807 := by omega
  refine ops_val (v := .int .i64 (IntKind.i64.wrap ((placeOf 9 gw gi gb n_) + 2))) (v' := .int .i64 ((placeOf 9 gw gi gb n_) + 2)) (by kernel_rfl) (congrArg (Value.int .i64) (wrap_i64 h39.1 h39.2)) ?_
  refine ops_new (fun b => .slice (some ⟨b, 0, none⟩) 1 1) (.cells [(.int .i64 ((placeOf 9 gw gi gb n_) + 2))].toArray 3 (0, 0)) hs34 (by kernel_rfl) (fun b42 w40 hs41 => ?_)
  have hs43 := St.f1 hs41
  refine ops_appendK kInt (bytes := 8) (a' := (some ⟨b42, 0, none⟩)) (c' := 1) (l := ([((placeOf 9 gw gi gb n_) + 0)] ++ [((placeOf 9 gw gi gb n_) + 1)])) (m := [((placeOf 9 gw gi gb n_) + 2)]) hs43 (by kernel_rfl) (by simp) (cells_blk (hs43.heapAt 1 rfl)) (by (unfold maxLen; try simp) <;> (simp only [List.length_cons, List.length_nil]; omega)) (by (try simp) <;> (simp only [List.length_cons, List.length_nil]; omega)) (fun a44 c45 w46 hs47 => ?_)
  refine ops_run 1 (by kernel_rfl) ?_
  refine ops_done (by kernel_rfl) ?_
  refine normal_block ?_
  refine hK37 _ _ ?_
  clear hK37
  refine W.region ?_
  refine ops_run 2 (by kernel_rfl) ?_
  refine ops_done (by kernel_rfl) ?_
  refine loopAt_next ?_
  refine loopAt_round ?_
  refine W.seq fun K48 hK48 => ?_
  refine W.region ?_
  refine ops_run 1 (by kernel_rfl) ?_
  refine ops_done (by kernel_rfl) ?_
  refine hK48 _ _ ?_
  clear hK48
  refine W.seq fun K49 hK49 => ?_
  refine W.cond_true true (by kernel_rfl) rfl ?_
  refine W.skip ?_
  refine hK49 _ _ ?_
  clear hK49
  refine W.seq fun K50 hK50 => ?_
  refine W.block ?_
  refine W.seq fun K51 hK51 => ?_
  refine W.region ?_
  refine ops_run 2 (by kernel_rfl) ?_
  refine ops_done (by kernel_rfl) ?_
  refine hK51 _ _ ?_
  clear hK51
  refine W.region ?_
  refine ops_run 3 (by kernel_rfl) ?_
  have h52 : -9223372036854775808 ≤ ((placeOf 9 gw gi gb n_) + 3) ∧ ((placeOf 9 gw gi gb n_) + 3) ≤ 9223372036854775807 := by omega
  refine ops_val (v := .int .i64 (IntKind.i64.wrap ((placeOf 9 gw gi gb n_) + 3))) (v' := .int .i64 ((placeOf 9 gw gi gb n_) + 3)) (by kernel_rfl) (congrArg (Value.int .i64) (wrap_i64 h52.1 h52.2)) ?_
  refine ops_new (fun b => .slice (some ⟨b, 0, none⟩) 1 1) (.cells [(.int .i64 ((placeOf 9 gw gi gb n_) + 3))].toArray 3 (0, 0)) hs47 (by kernel_rfl) (fun b55 w53 hs54 => ?_)
  have hs56 := St.f1 hs54
  refine ops_appendK kInt (bytes := 8) (a' := (some ⟨b55, 0, none⟩)) (c' := 1) (l := (([((placeOf 9 gw gi gb n_) + 0)] ++ [((placeOf 9 gw gi gb n_) + 1)]) ++ [((placeOf 9 gw gi gb n_) + 2)])) (m := [((placeOf 9 gw gi gb n_) + 3)]) hs56 (by kernel_rfl) (by simp) (cells_blk (hs56.heapAt 1 rfl)) (by (unfold maxLen; try simp) <;> (simp only [List.length_cons, List.length_nil]; omega)) (by (try simp) <;> (simp only [List.length_cons, List.length_nil]; omega)) (fun a57 c58 w59 hs60 => ?_)
  refine ops_run 1 (by kernel_rfl) ?_
  refine ops_done (by kernel_rfl) ?_
  refine normal_block ?_
  refine hK50 _ _ ?_
  clear hK50
  refine W.region ?_
  refine ops_run 2 (by kernel_rfl) ?_
  refine ops_done (by kernel_rfl) ?_
  refine loopAt_next ?_
  refine loopAt_round ?_
  refine W.seq fun K61 hK61 => ?_
  refine W.region ?_
  refine ops_run 1 (by kernel_rfl) ?_
  refine ops_done (by kernel_rfl) ?_
  refine hK61 _ _ ?_
  clear hK61
  refine W.seq fun K62 hK62 => ?_
  refine W.cond_true true (by kernel_rfl) rfl ?_
  refine W.skip ?_
  refine hK62 _ _ ?_
  clear hK62
  refine W.seq fun K63 hK63 => ?_
  refine W.block ?_
  refine W.seq fun K64 hK64 => ?_
  refine W.region ?_
  refine ops_run 2 (by kernel_rfl) ?_
  refine ops_done (by kernel_rfl) ?_
  refine hK64 _ _ ?_
  clear hK64
  refine W.region ?_
  refine ops_run 3 (by kernel_rfl) ?_
  have h65 : -9223372036854775808 ≤ ((placeOf 9 gw gi gb n_) + 4) ∧ ((placeOf 9 gw gi gb n_) + 4) ≤ 9223372036854775807 := by omega
  refine ops_val (v := .int .i64 (IntKind.i64.wrap ((placeOf 9 gw gi gb n_) + 4))) (v' := .int .i64 ((placeOf 9 gw gi gb n_) + 4)) (by kernel_rfl) (congrArg (Value.int .i64) (wrap_i64 h65.1 h65.2)) ?_
  refine ops_new (fun b => .slice (some ⟨b, 0, none⟩) 1 1) (.cells [(.int .i64 ((placeOf 9 gw gi gb n_) + 4))].toArray 3 (0, 0)) hs60 (by kernel_rfl) (fun b68 w66 hs67 => ?_)
  have hs69 := St.f1 hs67
  refine ops_appendK kInt (bytes := 8) (a' := (some ⟨b68, 0, none⟩)) (c' := 1) (l := ((([((placeOf 9 gw gi gb n_) + 0)] ++ [((placeOf 9 gw gi gb n_) + 1)]) ++ [((placeOf 9 gw gi gb n_) + 2)]) ++ [((placeOf 9 gw gi gb n_) + 3)])) (m := [((placeOf 9 gw gi gb n_) + 4)]) hs69 (by kernel_rfl) (by simp) (cells_blk (hs69.heapAt 1 rfl)) (by (unfold maxLen; try simp) <;> (simp only [List.length_cons, List.length_nil]; omega)) (by (try simp) <;> (simp only [List.length_cons, List.length_nil]; omega)) (fun a70 c71 w72 hs73 => ?_)
  refine ops_run 1 (by kernel_rfl) ?_
  refine ops_done (by kernel_rfl) ?_
  refine normal_block ?_
  refine hK63 _ _ ?_
  clear hK63
  refine W.region ?_
  refine ops_run 2 (by kernel_rfl) ?_
  refine ops_done (by kernel_rfl) ?_
  refine loopAt_next ?_
  refine loopAt_round ?_
  refine W.seq fun K74 hK74 => ?_
  refine W.region ?_
  refine ops_run 1 (by kernel_rfl) ?_
  refine ops_done (by kernel_rfl) ?_
  refine hK74 _ _ ?_
  clear hK74
  refine W.seq fun K75 hK75 => ?_
  refine W.cond_true true (by kernel_rfl) rfl ?_
  refine W.skip ?_
  refine hK75 _ _ ?_
  clear hK75
  refine W.seq fun K76 hK76 => ?_
  refine W.block ?_
  refine W.seq fun K77 hK77 => ?_
  refine W.region ?_
  refine ops_run 2 (by kernel_rfl) ?_
  refine ops_done (by kernel_rfl) ?_
  refine hK77 _ _ ?_
  clear hK77
  refine W.region ?_
  refine ops_run 3 (by kernel_rfl) ?_
  have h78 : -9223372036854775808 ≤ ((placeOf 9 gw gi gb n_) + 5) ∧ ((placeOf 9 gw gi gb n_) + 5) ≤ 9223372036854775807 := by omega
  refine ops_val (v := .int .i64 (IntKind.i64.wrap ((placeOf 9 gw gi gb n_) + 5))) (v' := .int .i64 ((placeOf 9 gw gi gb n_) + 5)) (by kernel_rfl) (congrArg (Value.int .i64) (wrap_i64 h78.1 h78.2)) ?_
  refine ops_new (fun b => .slice (some ⟨b, 0, none⟩) 1 1) (.cells [(.int .i64 ((placeOf 9 gw gi gb n_) + 5))].toArray 3 (0, 0)) hs73 (by kernel_rfl) (fun b81 w79 hs80 => ?_)
  have hs82 := St.f1 hs80
  refine ops_appendK kInt (bytes := 8) (a' := (some ⟨b81, 0, none⟩)) (c' := 1) (l := (((([((placeOf 9 gw gi gb n_) + 0)] ++ [((placeOf 9 gw gi gb n_) + 1)]) ++ [((placeOf 9 gw gi gb n_) + 2)]) ++ [((placeOf 9 gw gi gb n_) + 3)]) ++ [((placeOf 9 gw gi gb n_) + 4)])) (m := [((placeOf 9 gw gi gb n_) + 5)]) hs82 (by kernel_rfl) (by simp) (cells_blk (hs82.heapAt 1 rfl)) (by (unfold maxLen; try simp) <;> (simp only [List.length_cons, List.length_nil]; omega)) (by (try simp) <;> (simp only [List.length_cons, List.length_nil]; omega)) (fun a83 c84 w85 hs86 => ?_)
  refine ops_run 1 (by kernel_rfl) ?_
  refine ops_done (by kernel_rfl) ?_
  refine normal_block ?_
  refine hK76 _ _ ?_
  clear hK76
  refine W.region ?_
  refine ops_run 2 (by kernel_rfl) ?_
  refine ops_done (by kernel_rfl) ?_
  refine loopAt_next ?_
  refine loopAt_round ?_
  refine W.seq fun K87 hK87 => ?_
  refine W.region ?_
  refine ops_run 1 (by kernel_rfl) ?_
  refine ops_done (by kernel_rfl) ?_
  refine hK87 _ _ ?_
  clear hK87
  refine W.seq fun K88 hK88 => ?_
  refine W.cond_true true (by kernel_rfl) rfl ?_
  refine W.skip ?_
  refine hK88 _ _ ?_
  clear hK88
  refine W.seq fun K89 hK89 => ?_
  refine W.block ?_
  refine W.seq fun K90 hK90 => ?_
  refine W.region ?_
  refine ops_run 2 (by kernel_rfl) ?_
  refine ops_done (by kernel_rfl) ?_
  refine hK90 _ _ ?_
  clear hK90
  refine W.region ?_
  refine ops_run 3 (by kernel_rfl) ?_
  have h91 : -9223372036854775808 ≤ ((placeOf 9 gw gi gb n_) + 6) ∧ ((placeOf 9 gw gi gb n_) + 6) ≤ 9223372036854775807 := by omega
  refine ops_val (v := .int .i64 (IntKind.i64.wrap ((placeOf 9 gw gi gb n_) + 6))) (v' := .int .i64 ((placeOf 9 gw gi gb n_) + 6)) (by kernel_rfl) (congrArg (Value.int .i64) (wrap_i64 h91.1 h91.2)) ?_
  refine ops_new (fun b => .slice (some ⟨b, 0, none⟩) 1 1) (.cells [(.int .i64 ((placeOf 9 gw gi gb n_) + 6))].toArray 3 (0, 0)) hs86 (by kernel_rfl) (fun b94 w92 hs93 => ?_)
  have hs95 := St.f1 hs93
  refine ops_appendK kInt (bytes := 8) (a' := (some ⟨b94, 0, none⟩)) (c' := 1) (l := ((((([((placeOf 9 gw gi gb n_) + 0)] ++ [((placeOf 9 gw gi gb n_) + 1)]) ++ [((placeOf 9 gw gi gb n_) + 2)]) ++ [((placeOf 9 gw gi gb n_) + 3)]) ++ [((placeOf 9 gw gi gb n_) + 4)]) ++ [((placeOf 9 gw gi gb n_) + 5)])) (m := [((placeOf 9 gw gi gb n_) + 6)]) hs95 (by kernel_rfl) (by simp) (cells_blk (hs95.heapAt 1 rfl)) (by (unfold maxLen; try simp) <;> (simp only [List.length_cons, List.length_nil]; omega)) (by (try simp) <;> (simp only [List.length_cons, List.length_nil]; omega)) (fun a96 c97 w98 hs99 => ?_)
  refine ops_run 1 (by kernel_rfl) ?_
  refine ops_done (by kernel_rfl) ?_
  refine normal_block ?_
  refine hK89 _ _ ?_
  clear hK89
  refine W.region ?_
  refine ops_run 2 (by kernel_rfl) ?_
  refine ops_done (by kernel_rfl) ?_
  refine loopAt_next ?_
  refine loopAt_round ?_
  refine W.seq fun K100 hK100 => ?_
  refine W.region ?_
  refine ops_run 1 (by kernel_rfl) ?_
  refine ops_done (by kernel_rfl) ?_
  refine hK100 _ _ ?_
  clear hK100
  refine W.seq fun K101 hK101 => ?_
  refine W.cond_true true (by kernel_rfl) rfl ?_
  refine W.skip ?_
  refine hK101 _ _ ?_
  clear hK101
  refine W.seq fun K102 hK102 => ?_
  refine W.block ?_
  refine W.seq fun K103 hK103 => ?_
  refine W.region ?_
  refine ops_run 2 (by kernel_rfl) ?_
  refine ops_done (by kernel_rfl) ?_
  refine hK103 _ _ ?_
  clear hK103
  refine W.region ?_
  refine ops_run 3 (by kernel_rfl) ?_
  have h104 : -9223372036854775808 ≤ ((placeOf 9 gw gi gb n_) + 7) ∧ ((placeOf 9 gw gi gb n_) + 7) ≤ 9223372036854775807 := by omega
  refine ops_val (v := .int .i64 (IntKind.i64.wrap ((placeOf 9 gw gi gb n_) + 7))) (v' := .int .i64 ((placeOf 9 gw gi gb n_) + 7)) (by kernel_rfl) (congrArg (Value.int .i64) (wrap_i64 h104.1 h104.2)) ?_
  refine ops_new (fun b => .slice (some ⟨b, 0, none⟩) 1 1) (.cells [(.int .i64 ((placeOf 9 gw gi gb n_) + 7))].toArray 3 (0, 0)) hs99 (by kernel_rfl) (fun b107 w105 hs106 => ?_)
  have hs108 := St.f1 hs106
  refine ops_appendK kInt (bytes := 8) (a' := (some ⟨b107, 0, none⟩)) (c' := 1) (l := (((((([((placeOf 9 gw gi gb n_) + 0)] ++ [((placeOf 9 gw gi gb n_) + 1)]) ++ [((placeOf 9 gw gi gb n_) + 2)]) ++ [((placeOf 9 gw gi gb n_) + 3)]) ++ [((placeOf 9 gw gi gb n_) + 4)]) ++ [((placeOf 9 gw gi gb n_) + 5)]) ++ [((placeOf 9 gw gi gb n_) + 6)])) (m := [((placeOf 9 gw gi gb n_) + 7)]) hs108 (by kernel_rfl) (by simp) (cells_blk (hs108.heapAt 1 rfl)) (by (unfold maxLen; try simp) <;> (simp only [List.length_cons, List.length_nil]; omega)) (by (try simp) <;> (simp only [List.length_cons, List.length_nil]; omega)) (fun a109 c110 w111 hs112 => ?_)
  refine ops_run 1 (by kernel_rfl) ?_
  refine ops_done (by kernel_rfl) ?_
  refine normal_block ?_
  refine hK102 _ _ ?_
  clear hK102
  refine W.region ?_
  refine ops_run 2 (by kernel_rfl) ?_
  refine ops_done (by kernel_rfl) ?_
  refine loopAt_next ?_
  refine loopAt_round ?_
  refine W.seq fun K113 hK113 => ?_
  refine W.region ?_
  refine ops_run 1 (by kernel_rfl) ?_
  refine ops_done (by kernel_rfl) ?_
  refine hK113 _ _ ?_
  clear hK113
  refine W.seq fun K114 hK114 => ?_
  refine W.cond_false false (by kernel_rfl) rfl ?_
  refine W.exit (exit_seq (exit_seq (exit_here ?_)))
  refine hK6 _ _ ?_
  clear hK6
  refine W.seq fun K115 hK115 => ?_
  refine W.region ?_
  refine ops_run 2 (by kernel_rfl) ?_
  refine ops_done (by kernel_rfl) ?_
  refine hK115 _ _ ?_
  clear hK115
  refine W.ret ?_
  have hs116 := St.tk1 hs112
  refine ret_of (.slice a109 (((((((([((placeOf 9 gw gi gb n_) + 0)] ++ [((placeOf 9 gw gi gb n_) + 1)]) ++ [((placeOf 9 gw gi gb n_) + 2)]) ++ [((placeOf 9 gw gi gb n_) + 3)]) ++ [((placeOf 9 gw gi gb n_) + 4)]) ++ [((placeOf 9 gw gi gb n_) + 5)]) ++ [((placeOf 9 gw gi gb n_) + 6)]) ++ [((placeOf 9 gw gi gb n_) + 7)]).length) c110) (by kernel_rfl) ⟨_, ⟨a109, c110, rfl, rfl⟩, hs116⟩

end Go.Proofs.YthimamnblklkbaaDoor

/- What the code computes, by a program. -/
namespace Go.Proofs.YthimamnblklkbaaDoor
open Go Go.RowKit
set_option linter.unusedSimpArgs false
set_option linter.unusedVariables false

def atake0_J1 (r6 : Int × Bool) (r15 : Int × List (Int × Int)) : Option (Int × Int × List (Int × Int)) :=
  if r15.1 = 0 then (some (r6.1, 0, r15.2)) else (some (0, r15.1, r15.2))

def atake0_M (img : List Int) (l : List (Int × Int)) (at_ : Int) (many : Int) : Option (Int × Int × List (Int × Int)) :=
  (mclear_M img l at_ many).bind fun r6 =>
if r6.2 = true then ((mset_M img l at_ many r6.1 true).bind fun r15 =>
if r15.1 = 0 then (atake0_J1 r6 r15) else (atake0_J1 r6 r15)) else (some (0, 7, l))

set_option maxRecDepth 20000 in
set_option linter.unusedVariables false in
theorem atake0_walk {img : List Int} {l : List (Int × Int)} {gw : Int} {gi : Int} {gb : Int} {at_ : Int} {many : Int} {pm : Int} {ab ib bb vb mb : Nat} {r : Int × Int × List (Int × Int)} (B : Nat) (w : World) (hG : 0 < B) (hT : CellsAt (some ⟨0, 0, none⟩) tab8 w) (hm : atake0_M img l at_ many = some r) : Spec Tryd.prog 125 #[(.pointer (some ⟨ab, 0, none⟩)), (.agg #[(.pointer (some ⟨mb, 0, none⟩)), (.int .i64 pm)]), .nilFunc] B w [blk ab (.cells [(.pointer (some ⟨vb, 0, none⟩)), (.int .i64 gw), (.int .i64 gi), (.int .i64 gb), (.pointer (some ⟨ib, 0, none⟩)), (.int .i64 gi), (.pointer (some ⟨bb, 0, none⟩)), (.int .i64 gb)].toArray 188 (0, 0)), blk mb (.cells [(.pointer (some ⟨vb, 0, none⟩)), (.int .i64 at_), (.int .i64 many)].toArray 151 (0, 0)), viewA (ptr vb) img l] (fun v H' => v = .tuple #[.int .i64 r.1, .int .i64 r.2.1] ∧ H' = [blk ab (.cells [(.pointer (some ⟨vb, 0, none⟩)), (.int .i64 gw), (.int .i64 gi), (.int .i64 gb), (.pointer (some ⟨ib, 0, none⟩)), (.int .i64 gi), (.pointer (some ⟨bb, 0, none⟩)), (.int .i64 gb)].toArray 188 (0, 0)), blk mb (.cells [(.pointer (some ⟨vb, 0, none⟩)), (.int .i64 at_), (.int .i64 many)].toArray 151 (0, 0)), viewA (ptr vb) img r.2.2]) := by
  refine spec_W Tryd.func125 rfl fun l0 hs => ?_
  unfold atake0_M at hm
  refine W.seq fun K1 hK1 => ?_
  refine W.region ?_
  refine ops_new (fun b => .pointer (some ⟨b, 0, none⟩)) (.cells [(.pointer (some ⟨mb, 0, none⟩)), (.int .i64 pm)].toArray 186 (0, 0)) hs (by kernel_rfl) (fun b4 w2 hs3 => ?_)
  refine ops_run 2 (by kernel_rfl) ?_
  refine ops_done (by kernel_rfl) ?_
  refine hK1 _ _ ?_
  clear hK1
  refine W.seq fun K5 hK5 => ?_
  refine W.region ?_
  refine ops_run 1 (by kernel_rfl) ?_
  refine ops_R (runs_load (ad := ⟨b4, 0, none⟩) (v := (.pointer (some ⟨mb, 0, none⟩))) (by kernel_rfl) (hs3.cellAt 0 rfl rfl)) ?_
  obtain ⟨r6, h7, hm⟩ := bind_some hm
  refine ops_call0 hs3 (by kernel_rfl) (mclear_walk (hmb := (hs3.heapAt 2 rfl)) (hv := (hs3.entAt 3 rfl viewA_at)) (hT := (hs3.oldCellsB hG hT)) (hm := h7) B _) ?_
  rintro _ _ w8 ⟨rfl, rfl⟩ hs9
  have hs10 := St.ap0 hs9
  refine ops_run 5 (by kernel_rfl) ?_
  refine ops_done (by kernel_rfl) ?_
  refine hK5 _ _ ?_
  clear hK5
  refine W.seq fun K11 hK11 => ?_
  refine W.seq fun K12 hK12 => ?_
  refine W.region ?_
  refine ops_run 2 (by kernel_rfl) ?_
  refine ops_done (by kernel_rfl) ?_
  refine hK12 _ _ ?_
  clear hK12
  refine W.cond (!r6.2) (by kernel_rfl) (fun h13 => ?_) (fun h13 => ?_)
  rotate_left
  ·
    have h13p : r6.2 = true := (bnot_false h13)
    replace hm := ite_yes hm h13p
    refine W.skip ?_
    refine hK11 _ _ ?_
    clear hK11
    refine W.seq fun K14 hK14 => ?_
    refine W.region ?_
    refine ops_run 1 (by kernel_rfl) ?_
    refine ops_R (runs_load (ad := ⟨b4, 0, none⟩) (v := (.pointer (some ⟨mb, 0, none⟩))) (by kernel_rfl) (hs10.cellAt 0 rfl rfl)) ?_
    refine ops_run 1 (by kernel_rfl) ?_
    obtain ⟨r15, h16, hm⟩ := bind_some hm
    have hs17 := St.f3 hs10
    have hs18 := St.f3 hs17
    refine ops_call2 hs18 (by kernel_rfl) (mset_walk (hm := h16) B _) ?_
    rintro _ _ w19 ⟨rfl, rfl⟩ hs20
    have hs21 := St.ap2 hs20
    refine ops_run 1 (by kernel_rfl) ?_
    refine ops_done (by kernel_rfl) ?_
    refine hK14 _ _ ?_
    clear hK14
    refine W.seq fun K22 hK22 => ?_
    refine W.seq_join (fun s_ w_ => (∃ us, s_ = slots 38 [(0, (.pointer (some ⟨ab, 0, none⟩))), (2, .nilFunc), (8, (.int .i64 r6.1)), (10, (.int .i64 r15.1)), (28, (.bool false))] us) ∧ St B w l0 w_ [viewA (ptr vb) img r15.2, blk mb (.cells [(.pointer (some ⟨vb, 0, none⟩)), (.int .i64 at_), (.int .i64 many)].toArray 151 (0, 0)), blk b4 (.cells [(.pointer (some ⟨mb, 0, none⟩)), (.int .i64 pm)].toArray 186 (0, 0)), blk ab (.cells [(.pointer (some ⟨vb, 0, none⟩)), (.int .i64 gw), (.int .i64 gi), (.int .i64 gb), (.pointer (some ⟨ib, 0, none⟩)), (.int .i64 gi), (.pointer (some ⟨bb, 0, none⟩)), (.int .i64 gb)].toArray 188 (0, 0))] ∧ atake0_J1 r6 r15 = some r) ?_ ?_
    ·
      rintro _ w23 ⟨⟨us, rfl⟩, hs24, hm⟩
      unfold atake0_J1 at hm
      refine W.cond_false false (by kernel_rfl) rfl ?_
      refine W.skip ?_
      refine hK22 _ _ ?_
      clear hK22
      refine W.seq fun K25 hK25 => ?_
      refine W.seq fun K26 hK26 => ?_
      refine W.region ?_
      refine ops_run 2 (by kernel_rfl) ?_
      refine ops_done (by kernel_rfl) ?_
      refine hK26 _ _ ?_
      clear hK26
      refine W.cond (!decide (r15.1 = 0)) (by kernel_rfl) (fun h27 => ?_) (fun h27 => ?_)
      rotate_left
      ·
        have h27p : r15.1 = 0 := of_decide_eq_true (bnot_false h27)
        replace hm := ite_yes hm h27p
        refine W.skip ?_
        refine hK25 _ _ ?_
        clear hK25
        refine W.seq fun K28 hK28 => ?_
        refine W.region ?_
        refine ops_run 3 (by kernel_rfl) ?_
        refine ops_done (by kernel_rfl) ?_
        refine hK28 _ _ ?_
        clear hK28
        refine W.ret ?_
        obtain rfl := some_inj hm
        have hs29 := St.f1 hs24
        have hs30 := St.f3 hs29
        have hs31 := St.tk3 hs30
        refine ret_of (.tuple #[(.int .i64 r6.1), (.int .i64 0)]) (by kernel_rfl) ⟨_, ⟨rfl, rfl⟩, hs31⟩
      ·
        have h27p : ¬ (r15.1 = 0) := of_decide_eq_false (bnot_true h27)
        replace hm := ite_no hm h27p
        refine W.seq fun K32 hK32 => ?_
        refine W.region ?_
        refine ops_run 3 (by kernel_rfl) ?_
        refine ops_done (by kernel_rfl) ?_
        refine hK32 _ _ ?_
        clear hK32
        refine W.ret (ret_seq ?_)
        obtain rfl := some_inj hm
        have hs33 := St.f1 hs24
        have hs34 := St.f3 hs33
        have hs35 := St.tk3 hs34
        refine ret_of (.tuple #[(.int .i64 0), (.int .i64 r15.1)]) (by kernel_rfl) ⟨_, ⟨rfl, rfl⟩, hs35⟩
    ·
      refine W.region ?_
      refine ops_run 3 (by kernel_rfl) ?_
      rcases Bool.eq_false_or_eq_true (decide (r15.1 = 0)) with h36 | h36
      ·
        have h36p : r15.1 = 0 := of_decide_eq_true h36
        replace hm := ite_yes hm h36p
        refine ops_set 25 (v := .bool true) (eq_bool_of (by kernel_rfl) h36) ?_
        refine ops_set 24 (v := .bool true) (eq_bool_of (by kernel_rfl) h36) ?_
        refine ops_run 3 (by kernel_rfl) ?_
        refine ops_done (by kernel_rfl) ?_
        have hs37 := St.f3 hs21
        have hs38 := St.f3 hs37
        have hs39 := St.f2 hs38
        have hs40 := St.f3 hs39
        exact ⟨slots_intro _ (by kernel_rfl), hs40, hm⟩
      ·
        have h36p : ¬ (r15.1 = 0) := of_decide_eq_false h36
        replace hm := ite_no hm h36p
        refine ops_set 25 (v := .bool false) (eq_bool_of (by kernel_rfl) h36) ?_
        refine ops_set 24 (v := .bool false) (eq_bool_of (by kernel_rfl) h36) ?_
        refine ops_run 3 (by kernel_rfl) ?_
        refine ops_done (by kernel_rfl) ?_
        have hs41 := St.f3 hs21
        have hs42 := St.f3 hs41
        have hs43 := St.f2 hs42
        have hs44 := St.f3 hs43
        exact ⟨slots_intro _ (by kernel_rfl), hs44, hm⟩
  ·
    have h13p : ¬ (r6.2 = true) := ne_true_of_eq_false (bnot_true h13)
    replace hm := ite_no hm h13p
    refine W.seq fun K45 hK45 => ?_
    refine W.region ?_
    refine ops_run 2 (by kernel_rfl) ?_
    refine ops_done (by kernel_rfl) ?_
    refine hK45 _ _ ?_
    clear hK45
    refine W.ret (ret_seq ?_)
    obtain rfl := some_inj hm
    have hs46 := St.f3 hs10
    have hs47 := St.f3 hs46
    have hs48 := St.f3 hs47
    have hs49 := St.tk3 hs48
    refine ret_of (.tuple #[(.int .i64 0), (.int .i64 7)]) (by kernel_rfl) ⟨_, ⟨rfl, rfl⟩, hs49⟩

def atake1_J1 (r6 : Int × Bool) (l22 : List (Int × Int)) (p23 : Int) : Option (Int × Int × List (Int × Int)) :=
  if p23 = 0 then (some (r6.1, 0, l22)) else (some (0, p23, l22))

def atake1_J2 (img : List Int) (gw : Int) (gi : Int) (gb : Int) (r6 : Int × Bool) (r15 : Int × List (Int × Int)) (p39 : Bool) : Option (Int × Int × List (Int × Int)) :=
  if p39 = true then (need (-1000000 ≤ (placeOf 9 gw gi gb r6.1) ∧ (placeOf 9 gw gi gb r6.1) ≤ 1000000) <|
(aclear_M img r15.2 ([((placeOf 9 gw gi gb r6.1) + 0), ((placeOf 9 gw gi gb r6.1) + 1), ((placeOf 9 gw gi gb r6.1) + 2), ((placeOf 9 gw gi gb r6.1) + 3), ((placeOf 9 gw gi gb r6.1) + 4), ((placeOf 9 gw gi gb r6.1) + 5), ((placeOf 9 gw gi gb r6.1) + 6), ((placeOf 9 gw gi gb r6.1) + 7)])).bind fun r49 =>
atake1_J1 r6 r49.2 r49.1) else (atake1_J1 r6 r15.2 r15.1)

def atake1_M (img : List Int) (l : List (Int × Int)) (gw : Int) (gi : Int) (gb : Int) (at_ : Int) (many : Int) : Option (Int × Int × List (Int × Int)) :=
  (mclear_M img l at_ many).bind fun r6 =>
if r6.2 = true then ((mset_M img l at_ many r6.1 true).bind fun r15 =>
if r15.1 = 0 then (atake1_J2 img gw gi gb r6 r15 true) else (atake1_J2 img gw gi gb r6 r15 false)) else (some (0, 7, l))

set_option maxRecDepth 20000 in
set_option linter.unusedVariables false in
theorem atake1_walk {img : List Int} {l : List (Int × Int)} {gw : Int} {gi : Int} {gb : Int} {at_ : Int} {many : Int} {pm : Int} {ab ib bb vb mb cb : Nat} {r : Int × Int × List (Int × Int)} (B : Nat) (w : World) (hG : 0 < B) (hT : CellsAt (some ⟨0, 0, none⟩) tab8 w) (hm : atake1_M img l gw gi gb at_ many = some r) : Spec Tryd.prog 125 #[(.pointer (some ⟨ab, 0, none⟩)), (.agg #[(.pointer (some ⟨mb, 0, none⟩)), (.int .i64 pm)]), (.func (.func 126) #[] #[(.pointer (some ⟨cb, 0, none⟩))])] B w [blk ab (.cells [(.pointer (some ⟨vb, 0, none⟩)), (.int .i64 gw), (.int .i64 gi), (.int .i64 gb), (.pointer (some ⟨ib, 0, none⟩)), (.int .i64 gi), (.pointer (some ⟨bb, 0, none⟩)), (.int .i64 gb)].toArray 188 (0, 0)), blk mb (.cells [(.pointer (some ⟨vb, 0, none⟩)), (.int .i64 at_), (.int .i64 many)].toArray 151 (0, 0)), blk cb (.cells [(.pointer (some ⟨ab, 0, none⟩))].toArray 92 (0, 0)), viewA (ptr vb) img l] (fun v H' => v = .tuple #[.int .i64 r.1, .int .i64 r.2.1] ∧ H' = [blk ab (.cells [(.pointer (some ⟨vb, 0, none⟩)), (.int .i64 gw), (.int .i64 gi), (.int .i64 gb), (.pointer (some ⟨ib, 0, none⟩)), (.int .i64 gi), (.pointer (some ⟨bb, 0, none⟩)), (.int .i64 gb)].toArray 188 (0, 0)), blk mb (.cells [(.pointer (some ⟨vb, 0, none⟩)), (.int .i64 at_), (.int .i64 many)].toArray 151 (0, 0)), blk cb (.cells [(.pointer (some ⟨ab, 0, none⟩))].toArray 92 (0, 0)), viewA (ptr vb) img r.2.2]) := by
  refine spec_W Tryd.func125 rfl fun l0 hs => ?_
  unfold atake1_M at hm
  refine W.seq fun K1 hK1 => ?_
  refine W.region ?_
  refine ops_new (fun b => .pointer (some ⟨b, 0, none⟩)) (.cells [(.pointer (some ⟨mb, 0, none⟩)), (.int .i64 pm)].toArray 186 (0, 0)) hs (by kernel_rfl) (fun b4 w2 hs3 => ?_)
  refine ops_run 2 (by kernel_rfl) ?_
  refine ops_done (by kernel_rfl) ?_
  refine hK1 _ _ ?_
  clear hK1
  refine W.seq fun K5 hK5 => ?_
  refine W.region ?_
  refine ops_run 1 (by kernel_rfl) ?_
  refine ops_R (runs_load (ad := ⟨b4, 0, none⟩) (v := (.pointer (some ⟨mb, 0, none⟩))) (by kernel_rfl) (hs3.cellAt 0 rfl rfl)) ?_
  obtain ⟨r6, h7, hm⟩ := bind_some hm
  refine ops_call0 hs3 (by kernel_rfl) (mclear_walk (hmb := (hs3.heapAt 2 rfl)) (hv := (hs3.entAt 4 rfl viewA_at)) (hT := (hs3.oldCellsB hG hT)) (hm := h7) B _) ?_
  rintro _ _ w8 ⟨rfl, rfl⟩ hs9
  have hs10 := St.ap0 hs9
  refine ops_run 5 (by kernel_rfl) ?_
  refine ops_done (by kernel_rfl) ?_
  refine hK5 _ _ ?_
  clear hK5
  refine W.seq fun K11 hK11 => ?_
  refine W.seq fun K12 hK12 => ?_
  refine W.region ?_
  refine ops_run 2 (by kernel_rfl) ?_
  refine ops_done (by kernel_rfl) ?_
  refine hK12 _ _ ?_
  clear hK12
  refine W.cond (!r6.2) (by kernel_rfl) (fun h13 => ?_) (fun h13 => ?_)
  rotate_left
  ·
    have h13p : r6.2 = true := (bnot_false h13)
    replace hm := ite_yes hm h13p
    refine W.skip ?_
    refine hK11 _ _ ?_
    clear hK11
    refine W.seq fun K14 hK14 => ?_
    refine W.region ?_
    refine ops_run 1 (by kernel_rfl) ?_
    refine ops_R (runs_load (ad := ⟨b4, 0, none⟩) (v := (.pointer (some ⟨mb, 0, none⟩))) (by kernel_rfl) (hs10.cellAt 0 rfl rfl)) ?_
    refine ops_run 1 (by kernel_rfl) ?_
    obtain ⟨r15, h16, hm⟩ := bind_some hm
    have hs17 := St.f4 hs10
    have hs18 := St.f3 hs17
    refine ops_call2 hs18 (by kernel_rfl) (mset_walk (hm := h16) B _) ?_
    rintro _ _ w19 ⟨rfl, rfl⟩ hs20
    have hs21 := St.ap2 hs20
    refine ops_run 1 (by kernel_rfl) ?_
    refine ops_done (by kernel_rfl) ?_
    refine hK14 _ _ ?_
    clear hK14
    refine W.seq_join (fun s_ w_ => ∃ (l22 : List (Int × Int)) (p23 : Int), (∃ us, s_ = slots 38 [(8, (.int .i64 r6.1)), (10, (.int .i64 p23))] us) ∧ St B w l0 w_ [viewA (ptr vb) img l22, blk mb (.cells [(.pointer (some ⟨vb, 0, none⟩)), (.int .i64 at_), (.int .i64 many)].toArray 151 (0, 0)), blk b4 (.cells [(.pointer (some ⟨mb, 0, none⟩)), (.int .i64 pm)].toArray 186 (0, 0)), blk ab (.cells [(.pointer (some ⟨vb, 0, none⟩)), (.int .i64 gw), (.int .i64 gi), (.int .i64 gb), (.pointer (some ⟨ib, 0, none⟩)), (.int .i64 gi), (.pointer (some ⟨bb, 0, none⟩)), (.int .i64 gb)].toArray 188 (0, 0)), blk cb (.cells [(.pointer (some ⟨ab, 0, none⟩))].toArray 92 (0, 0))] ∧ atake1_J1 r6 l22 p23 = some r) ?_ ?_
    ·
      rintro _ w24 ⟨l22, p23, ⟨us, rfl⟩, hs25, hm⟩
      unfold atake1_J1 at hm
      refine W.seq fun K26 hK26 => ?_
      refine W.seq fun K27 hK27 => ?_
      refine W.region ?_
      refine ops_run 2 (by kernel_rfl) ?_
      refine ops_done (by kernel_rfl) ?_
      refine hK27 _ _ ?_
      clear hK27
      refine W.cond (!decide (p23 = 0)) (by kernel_rfl) (fun h28 => ?_) (fun h28 => ?_)
      rotate_left
      ·
        have h28p : p23 = 0 := of_decide_eq_true (bnot_false h28)
        replace hm := ite_yes hm h28p
        refine W.skip ?_
        refine hK26 _ _ ?_
        clear hK26
        refine W.seq fun K29 hK29 => ?_
        refine W.region ?_
        refine ops_run 3 (by kernel_rfl) ?_
        refine ops_done (by kernel_rfl) ?_
        refine hK29 _ _ ?_
        clear hK29
        refine W.ret ?_
        obtain rfl := some_inj hm
        have hs30 := St.f4 hs25
        have hs31 := St.f2 hs30
        have hs32 := St.f4 hs31
        have hs33 := St.tk4 hs32
        refine ret_of (.tuple #[(.int .i64 r6.1), (.int .i64 0)]) (by kernel_rfl) ⟨_, ⟨rfl, rfl⟩, hs33⟩
      ·
        have h28p : ¬ (p23 = 0) := of_decide_eq_false (bnot_true h28)
        replace hm := ite_no hm h28p
        refine W.seq fun K34 hK34 => ?_
        refine W.region ?_
        refine ops_run 3 (by kernel_rfl) ?_
        refine ops_done (by kernel_rfl) ?_
        refine hK34 _ _ ?_
        clear hK34
        refine W.ret (ret_seq ?_)
        obtain rfl := some_inj hm
        have hs35 := St.f4 hs25
        have hs36 := St.f2 hs35
        have hs37 := St.f4 hs36
        have hs38 := St.tk4 hs37
        refine ret_of (.tuple #[(.int .i64 0), (.int .i64 p23)]) (by kernel_rfl) ⟨_, ⟨rfl, rfl⟩, hs38⟩
    ·
      refine W.seq_join (fun s_ w_ => ∃ (p39 : Bool), (∃ us, s_ = slots 38 [(0, (.pointer (some ⟨ab, 0, none⟩))), (2, (.func (.func 126) #[] #[(.pointer (some ⟨cb, 0, none⟩))])), (8, (.int .i64 r6.1)), (10, (.int .i64 r15.1)), (28, (.bool p39))] us) ∧ St B w l0 w_ [viewA (ptr vb) img r15.2, blk mb (.cells [(.pointer (some ⟨vb, 0, none⟩)), (.int .i64 at_), (.int .i64 many)].toArray 151 (0, 0)), blk b4 (.cells [(.pointer (some ⟨mb, 0, none⟩)), (.int .i64 pm)].toArray 186 (0, 0)), blk ab (.cells [(.pointer (some ⟨vb, 0, none⟩)), (.int .i64 gw), (.int .i64 gi), (.int .i64 gb), (.pointer (some ⟨ib, 0, none⟩)), (.int .i64 gi), (.pointer (some ⟨bb, 0, none⟩)), (.int .i64 gb)].toArray 188 (0, 0)), blk cb (.cells [(.pointer (some ⟨ab, 0, none⟩))].toArray 92 (0, 0))] ∧ atake1_J2 img gw gi gb r6 r15 p39 = some r) ?_ ?_
      ·
        rintro _ w40 ⟨p39, ⟨us, rfl⟩, hs41, hm⟩
        unfold atake1_J2 at hm
        refine W.cond p39 (by kernel_rfl) (fun h42 => ?_) (fun h42 => ?_)
        ·
          have h42p : p39 = true := h42
          replace hm := ite_yes hm h42p
          refine W.region ?_
          refine ops_run 3 (by kernel_rfl) ?_
          obtain ⟨h45, hm⟩ := need_some hm
          refine ops_call0 hs41 (by kernel_rfl) (own_spec (n_ := r6.1) (hpl := h45) (hcb := (hs41.heapAt 4 rfl)) (hab := (hs41.heapAt 3 rfl)) B _) ?_
          rintro _ _ w46 ⟨a43, c44, rfl, rfl⟩ hs47
          have hs48 := St.ap1 hs47
          obtain ⟨r49, h50, hm⟩ := bind_some hm
          have hs51 := St.f1 hs48
          have hs52 := St.f1 hs51
          have hs53 := St.f4 hs52
          refine ops_call3 hs53 (by kernel_rfl) (aclear_walk (hm := h50) B _) ?_
          rintro _ _ w54 ⟨rfl, rfl⟩ hs55
          have hs56 := St.ap3 hs55
          refine ops_run 1 (by kernel_rfl) ?_
          refine ops_done (by kernel_rfl) ?_
          have hs57 := St.f5 hs56
          have hs58 := St.f1 hs57
          have hs59 := St.f5 hs58
          have hs60 := St.f5 hs59
          have hs61 := St.f5 hs60
          have hs62 := St.tk5 hs61
          exact ⟨r49.2, r49.1, slots_intro _ (by kernel_rfl), hs62, hm⟩
        ·
          have h42p : ¬ (p39 = true) := ne_true_of_eq_false h42
          replace hm := ite_no hm h42p
          refine W.skip ?_
          exact ⟨r15.2, r15.1, slots_intro _ (by kernel_rfl), hs41, hm⟩
      ·
        refine W.region ?_
        refine ops_run 3 (by kernel_rfl) ?_
        rcases Bool.eq_false_or_eq_true (decide (r15.1 = 0)) with h63 | h63
        ·
          have h63p : r15.1 = 0 := of_decide_eq_true h63
          replace hm := ite_yes hm h63p
          refine ops_set 25 (v := .bool true) (eq_bool_of (by kernel_rfl) h63) ?_
          refine ops_set 24 (v := .bool true) (eq_bool_of (by kernel_rfl) h63) ?_
          refine ops_run 3 (by kernel_rfl) ?_
          refine ops_done (by kernel_rfl) ?_
          have hs64 := St.f4 hs21
          have hs65 := St.f4 hs64
          have hs66 := St.f4 hs65
          have hs67 := St.f3 hs66
          have hs68 := St.f4 hs67
          exact ⟨true, slots_intro _ (by kernel_rfl), hs68, hm⟩
        ·
          have h63p : ¬ (r15.1 = 0) := of_decide_eq_false h63
          replace hm := ite_no hm h63p
          refine ops_set 25 (v := .bool false) (eq_bool_of (by kernel_rfl) h63) ?_
          refine ops_set 24 (v := .bool false) (eq_bool_of (by kernel_rfl) h63) ?_
          refine ops_run 3 (by kernel_rfl) ?_
          refine ops_done (by kernel_rfl) ?_
          have hs69 := St.f4 hs21
          have hs70 := St.f4 hs69
          have hs71 := St.f4 hs70
          have hs72 := St.f3 hs71
          have hs73 := St.f4 hs72
          exact ⟨false, slots_intro _ (by kernel_rfl), hs73, hm⟩
  ·
    have h13p : ¬ (r6.2 = true) := ne_true_of_eq_false (bnot_true h13)
    replace hm := ite_no hm h13p
    refine W.seq fun K74 hK74 => ?_
    refine W.region ?_
    refine ops_run 2 (by kernel_rfl) ?_
    refine ops_done (by kernel_rfl) ?_
    refine hK74 _ _ ?_
    clear hK74
    refine W.ret (ret_seq ?_)
    obtain rfl := some_inj hm
    have hs75 := St.f4 hs10
    have hs76 := St.f4 hs75
    have hs77 := St.f4 hs76
    have hs78 := St.f4 hs77
    have hs79 := St.tk4 hs78
    refine ret_of (.tuple #[(.int .i64 0), (.int .i64 7)]) (by kernel_rfl) ⟨_, ⟨rfl, rfl⟩, hs79⟩

end Go.Proofs.YthimamnblklkbaaDoor

/- Kinds of layer 7, by a program. -/
namespace Go.Proofs.YthimamnblklkbaaDoor
open Go Go.RowKit
set_option linter.unusedSimpArgs false
set_option linter.unusedVariables false

structure TTn7 where
  c0 : Int
  c1 : Int

def dTn7 : TTn7 := (⟨0, 0⟩ : TTn7)
def kTn7 : Kind TTn7 := ⟨141, 2, fun x => [.int .u16 x.c0, .int .u64 x.c1], by decide, fun _ => rfl, fun _ => rfl⟩
def good_Tn7 (x : TTn7) : Prop := (0 ≤ x.c0 ∧ x.c0 ≤ 65535) ∧ (0 ≤ x.c1 ∧ x.c1 ≤ 18446744073709551615)

structure TSt7 where
  c0 : Int
  c1 : Int
  c2 : Bool

def dSt7 : TSt7 := (⟨0, 0, false⟩ : TSt7)
def kSt7 : Kind TSt7 := ⟨136, 3, fun x => [.int .u8 x.c0, .int .i64 x.c1, .bool x.c2], by decide, fun _ => rfl, fun _ => rfl⟩
def good_St7 (x : TSt7) : Prop := (0 ≤ x.c0 ∧ x.c0 ≤ 255) ∧ (-9223372036854775808 ≤ x.c1 ∧ x.c1 ≤ 9223372036854775807)

structure TGeo where
  c0 : Int
  c1 : Int
  c2 : Int

def dGeo : TGeo := (⟨0, 0, 0⟩ : TGeo)
def kGeo : Kind TGeo := ⟨63, 3, fun x => [.int .i64 x.c0, .int .i64 x.c1, .int .i64 x.c2], by decide, fun _ => rfl, fun _ => rfl⟩
def good_Geo (x : TGeo) : Prop := (-9223372036854775808 ≤ x.c0 ∧ x.c0 ≤ 9223372036854775807) ∧ (-9223372036854775808 ≤ x.c1 ∧ x.c1 ≤ 9223372036854775807) ∧ (-9223372036854775808 ≤ x.c2 ∧ x.c2 ≤ 9223372036854775807)

end Go.Proofs.YthimamnblklkbaaDoor

/- How the arguments of layer 7 read, by a program. -/
namespace Go.Proofs.YthimamnblklkbaaDoor
open Go.ChangeShapes Go.WideShapes Go.ChangeAt Go.RowKit Go.Deep
set_option linter.unusedVariables false

theorem leaf_Tn7 (cs0 : List Value) (e0 : LeavesOk [.int .u16, .int .u64] cs0) : ∃ x, cs0 = kTn7.elem x ∧ good_Tn7 x := by
  obtain ⟨_, cs1, rfl, ⟨z0, rfl, b0⟩, e1⟩ := leaves_cons e0
  obtain ⟨_, cs2, rfl, ⟨z1, rfl, b1⟩, e2⟩ := leaves_cons e1
  obtain rfl := leaves_nil e2
  simp [Lit.wf, IntKind.min, IntKind.max, IntKind.signed, IntKind.bits] at b0 b1
  refine ⟨⟨z0, z1⟩, rfl, ?_⟩
  simp only [good_Tn7]
  omega
theorem read_Tn7 {H : Type} {enc : TypeId × Value → H} {w : World} {base : Nat} {sp : Nat → Bool} (n : Nat) (cs : List Value) (y : DataW H × List MemPlace) (_ : cs.length = kTn7.size) (h : DataW.trod enc Tryd.prog w base sp true n kTn7.e cs = some y) :
    ∃ x, cs = kTn7.elem x ∧ good_Tn7 x := leaf_Tn7 cs (leaves_ok (P := Tryd.prog) 6 kTn7.e [.int .u16, .int .u64] _ _ _ (by kernel_rfl) h)

theorem leaf_St7 (cs0 : List Value) (e0 : LeavesOk [.int .u8, .int .i64, .bool] cs0) : ∃ x, cs0 = kSt7.elem x ∧ good_St7 x := by
  obtain ⟨_, cs1, rfl, ⟨z0, rfl, b0⟩, e1⟩ := leaves_cons e0
  obtain ⟨_, cs2, rfl, ⟨z1, rfl, b1⟩, e2⟩ := leaves_cons e1
  obtain ⟨_, cs3, rfl, ⟨z2, rfl⟩, e3⟩ := leaves_cons e2
  obtain rfl := leaves_nil e3
  simp [Lit.wf, IntKind.min, IntKind.max, IntKind.signed, IntKind.bits] at b0 b1
  refine ⟨⟨z0, z1, z2⟩, rfl, ?_⟩
  simp only [good_St7]
  omega
theorem read_St7 {H : Type} {enc : TypeId × Value → H} {w : World} {base : Nat} {sp : Nat → Bool} (n : Nat) (cs : List Value) (y : DataW H × List MemPlace) (_ : cs.length = kSt7.size) (h : DataW.trod enc Tryd.prog w base sp true n kSt7.e cs = some y) :
    ∃ x, cs = kSt7.elem x ∧ good_St7 x := leaf_St7 cs (leaves_ok (P := Tryd.prog) 6 kSt7.e [.int .u8, .int .i64, .bool] _ _ _ (by kernel_rfl) h)

theorem leaf_Geo (cs0 : List Value) (e0 : LeavesOk [.int .i64, .int .i64, .int .i64] cs0) : ∃ x, cs0 = kGeo.elem x ∧ good_Geo x := by
  obtain ⟨_, cs1, rfl, ⟨z0, rfl, b0⟩, e1⟩ := leaves_cons e0
  obtain ⟨_, cs2, rfl, ⟨z1, rfl, b1⟩, e2⟩ := leaves_cons e1
  obtain ⟨_, cs3, rfl, ⟨z2, rfl, b2⟩, e3⟩ := leaves_cons e2
  obtain rfl := leaves_nil e3
  simp [Lit.wf, IntKind.min, IntKind.max, IntKind.signed, IntKind.bits] at b0 b1 b2
  refine ⟨⟨z0, z1, z2⟩, rfl, ?_⟩
  simp only [good_Geo]
  omega
theorem read_Geo {H : Type} {enc : TypeId × Value → H} {w : World} {base : Nat} {sp : Nat → Bool} (n : Nat) (cs : List Value) (y : DataW H × List MemPlace) (_ : cs.length = kGeo.size) (h : DataW.trod enc Tryd.prog w base sp true n kGeo.e cs = some y) :
    ∃ x, cs = kGeo.elem x ∧ good_Geo x := leaf_Geo cs (leaves_ok (P := Tryd.prog) 6 kGeo.e [.int .i64, .int .i64, .int .i64] _ _ _ (by kernel_rfl) h)

end Go.Proofs.YthimamnblklkbaaDoor
