/- Texts of one kind, one behind the other: F6c, F7a, Ss, Sx, Pl, Ps, Pu, LoS, K11, TdL. -/
import Derived.Test.YthimamnblklkbaaDoorGE
import Derived.Test.YthimamnblklkbaaDoorGC
import Derived.Laws.BytesArg
import Derived.OpenShut
import Derived.Test.YthimamnblklkbaaDoorGA
import Derived.LaidMore
import Derived.Stop.Joined
import Derived.Lib.LaidTab
set_option linter.unusedVariables false
set_option linter.unusedSimpArgs false
/- Contracts of layers 6 and 7, by a program. -/
namespace Go.Proofs.YthimamnblklkbaaDoor
open Go Go.RowKit
set_option linter.unusedSimpArgs false
set_option linter.unusedVariables false

set_option maxRecDepth 20000 in
theorem format_spec {gw gi gb : Int} (B : Nat) (w : World) : Spec Tryd.prog 63 #[(.agg #[(.int .i64 gw), (.int .i64 gi), (.int .i64 gb)])] B w [] (fun v H' => ∃ a' c', v = .slice a' (fmtW gw gi gb).length c' ∧ H' = [kU64.row a' c' (fmtW gw gi gb)]) := by
  refine spec_Q Tryd.func63 rfl fun hs => ?_
  refine W.seq fun K1 hK1 => ?_
  refine W.region ?_
  refine ops_new (fun b => .pointer (some ⟨b, 0, none⟩)) (.cells [(.int .i64 gw), (.int .i64 gi), (.int .i64 gb)].toArray 88 (0, 0)) hs (by kernel_rfl) (fun b4 w2 hs3 => ?_)
  refine ops_run 1 (by kernel_rfl) ?_
  refine ops_done (by kernel_rfl) ?_
  refine hK1 _ _ ?_
  clear hK1
  refine W.seq fun K5 hK5 => ?_
  refine W.seq fun K6 hK6 => ?_
  refine W.region ?_
  refine ops_R (runs_loadAgg (ad := ⟨b4, 0, none⟩) (cs := [(.int .i64 gw), (.int .i64 gi), (.int .i64 gb)]) (by kernel_rfl) (cells_sub (hs3.heapAt 0 rfl) rfl)) ?_
  refine ops_call0 hs3 (by kernel_rfl) (rmay_spec (gw := gw) (gi := gi) (gb := gb) B _) ?_
  rintro _ _ w7 ⟨rfl, rfl⟩ hs8
  have hs9 := St.ap0 hs8
  refine ops_run 1 (by kernel_rfl) ?_
  refine ops_done (by kernel_rfl) ?_
  refine hK6 _ _ ?_
  clear hK6
  refine W.cond (!(decide (May gw gi gb))) (by kernel_rfl) (fun h10 => ?_) (fun h10 => ?_)
  ·
    have h10p : ¬ (May gw gi gb) := of_decide_eq_false (bnot_true h10)
    refine W.seq fun K11 hK11 => ?_
    refine W.region ?_
    refine ops_run 1 (by kernel_rfl) ?_
    refine ops_done (by kernel_rfl) ?_
    refine hK11 _ _ ?_
    clear hK11
    refine W.ret (ret_seq ?_)
    have hs12 := St.tk0 hs9
    have hk := St.knil kU64 hs12
    have e_ : fmtW gw gi gb = [] := if_neg (by assumption)
    refine ret_of (.slice none 0 0) (by kernel_rfl) ⟨_, ⟨none, 0, by rw [e_]; rfl, by rw [e_]⟩, hk⟩
  ·
    have h10p : May gw gi gb := of_decide_eq_true (bnot_false h10)
    have hm : May gw gi gb := h10p
    have hm_ : (1 ≤ gw ∧ gw ≤ 4) ∧ (2 ≤ gi ∧ gi ≤ 64) ∧ (2 ≤ gb ∧ gb ≤ 512) := hm
    have hwd := words_may hm
    have hp6 := place6 hm
    have hp7 := place7 hm
    have hp8 := place8_in (n := 1) hm (by omega)
    refine W.skip ?_
    refine hK5 _ _ ?_
    clear hK5
    refine W.seq fun K13 hK13 => ?_
    refine W.region ?_
    refine ops_R (runs_loadAgg (ad := ⟨b4, 0, none⟩) (cs := [(.int .i64 gw), (.int .i64 gi), (.int .i64 gb)]) (by kernel_rfl) (cells_sub (hs9.heapAt 0 rfl) rfl)) ?_
    refine ops_call0 hs9 (by kernel_rfl) (rwords_spec (gw := gw) (gi := gi) (gb := gb) B _) ?_
    rintro _ _ w14 ⟨rfl, rfl⟩ hs15
    have hs16 := St.ap0 hs15
    refine ops_makeSlice kU64 0 (z := (wordsOf gw gi gb)) (bytes := 8) ((wordsOf gw gi gb).toNat) (by omega) hs16 (by kernel_rfl) (by omega) (by unfold maxLen; omega) (fun b17 w18 hs19 => ?_)
    refine ops_run 1 (by kernel_rfl) ?_
    refine ops_done (by kernel_rfl) ?_
    refine hK13 _ _ ?_
    clear hK13
    refine W.seq fun K20 hK20 => ?_
    refine W.region ?_
    refine ops_run 1 (by kernel_rfl) ?_
    have hk21 : 0 < (wordsOf gw gi gb).toNat := by omega
    have hk22 : 0 < (List.replicate ((wordsOf gw gi gb).toNat) (0 : Int)).length := by simp only [List.length_set, List.length_replicate]; exact hk21
    refine ops_R (runs_index (a := (some ⟨b17, 0, none⟩)) (n := (wordsOf gw gi gb).toNat) (z := 0) (size := 1) 0 rfl hk21 (kU64.addr (St.kcells kU64 hs19 0 rfl) hk22) (by kernel_rfl)) ?_
    refine ops_storeK kU64 (j := 0) (vs := [(.int .u64 32762617960297063)]) 0 32762617960297063 hs19 hk22 (Nat.le_of_ble_eq_true rfl) (by simp) rfl rfl (by kernel_rfl) (fun w23 hs24 => ?_)
    refine ops_done (by kernel_rfl) ?_
    refine hK20 _ _ ?_
    clear hK20
    refine W.seq fun K26 hK26 => ?_
    refine W.region ?_
    refine ops_run 2 (by kernel_rfl) ?_
    refine ops_R (runs_load (ad := ⟨b4, 0, none⟩) (v := (.int .i64 gw)) (by kernel_rfl) (hs24.cellAt 1 rfl rfl)) ?_
    refine ops_val (v := .int .u64 (IntKind.u64.wrap gw)) (v' := .int .u64 gw) (by kernel_rfl) (congrArg (Value.int .u64) (wrap_u64 (by omega) (by omega))) ?_
    have hk27 : 1 < (wordsOf gw gi gb).toNat := by omega
    have hk28 : 1 < ((List.replicate ((wordsOf gw gi gb).toNat) (0 : Int)).set 0 32762617960297063).length := by simp only [List.length_set, List.length_replicate]; exact hk27
    refine ops_R (runs_index (a := (some ⟨b17, 0, none⟩)) (n := (wordsOf gw gi gb).toNat) (z := 1) (size := 1) 1 rfl hk27 (kU64.addr (St.kcells kU64 hs24 0 rfl) hk28) (by kernel_rfl)) ?_
    refine ops_storeK kU64 (j := 0) (vs := [(.int .u64 gw)]) 0 gw hs24 hk28 (Nat.le_of_ble_eq_true rfl) (by simp) rfl rfl (by kernel_rfl) (fun w29 hs30 => ?_)
    refine ops_done (by kernel_rfl) ?_
    refine hK26 _ _ ?_
    clear hK26
    refine W.seq fun K32 hK32 => ?_
    refine W.region ?_
    refine ops_run 2 (by kernel_rfl) ?_
    refine ops_R (runs_load (ad := ⟨b4, 1, none⟩) (v := (.int .i64 gi)) (by kernel_rfl) (hs30.cellAt 1 rfl rfl)) ?_
    refine ops_val (v := .int .u64 (IntKind.u64.wrap gi)) (v' := .int .u64 gi) (by kernel_rfl) (congrArg (Value.int .u64) (wrap_u64 (by omega) (by omega))) ?_
    have hk33 : 2 < (wordsOf gw gi gb).toNat := by omega
    have hk34 : 2 < (((List.replicate ((wordsOf gw gi gb).toNat) (0 : Int)).set 0 32762617960297063).set 1 gw).length := by simp only [List.length_set, List.length_replicate]; exact hk33
    refine ops_R (runs_index (a := (some ⟨b17, 0, none⟩)) (n := (wordsOf gw gi gb).toNat) (z := 2) (size := 1) 2 rfl hk33 (kU64.addr (St.kcells kU64 hs30 0 rfl) hk34) (by kernel_rfl)) ?_
    refine ops_storeK kU64 (j := 0) (vs := [(.int .u64 gi)]) 0 gi hs30 hk34 (Nat.le_of_ble_eq_true rfl) (by simp) rfl rfl (by kernel_rfl) (fun w35 hs36 => ?_)
    refine ops_done (by kernel_rfl) ?_
    refine hK32 _ _ ?_
    clear hK32
    refine W.seq fun K38 hK38 => ?_
    refine W.region ?_
    refine ops_run 2 (by kernel_rfl) ?_
    refine ops_R (runs_load (ad := ⟨b4, 2, none⟩) (v := (.int .i64 gb)) (by kernel_rfl) (hs36.cellAt 1 rfl rfl)) ?_
    refine ops_val (v := .int .u64 (IntKind.u64.wrap gb)) (v' := .int .u64 gb) (by kernel_rfl) (congrArg (Value.int .u64) (wrap_u64 (by omega) (by omega))) ?_
    have hk39 : 3 < (wordsOf gw gi gb).toNat := by omega
    have hk40 : 3 < ((((List.replicate ((wordsOf gw gi gb).toNat) (0 : Int)).set 0 32762617960297063).set 1 gw).set 2 gi).length := by simp only [List.length_set, List.length_replicate]; exact hk39
    refine ops_R (runs_index (a := (some ⟨b17, 0, none⟩)) (n := (wordsOf gw gi gb).toNat) (z := 3) (size := 1) 3 rfl hk39 (kU64.addr (St.kcells kU64 hs36 0 rfl) hk40) (by kernel_rfl)) ?_
    refine ops_storeK kU64 (j := 0) (vs := [(.int .u64 gb)]) 0 gb hs36 hk40 (Nat.le_of_ble_eq_true rfl) (by simp) rfl rfl (by kernel_rfl) (fun w41 hs42 => ?_)
    refine ops_done (by kernel_rfl) ?_
    refine hK38 _ _ ?_
    clear hK38
    refine W.seq fun K44 hK44 => ?_
    refine W.region ?_
    refine ops_run 1 (by kernel_rfl) ?_
    refine ops_R (runs_loadAgg (ad := ⟨b4, 0, none⟩) (cs := [(.int .i64 gw), (.int .i64 gi), (.int .i64 gb)]) (by kernel_rfl) (cells_sub (hs42.heapAt 1 rfl) rfl)) ?_
    refine ops_call0 hs42 (by kernel_rfl) (rmapat_spec (gw := gw) (gi := gi) (gb := gb) B _) ?_
    rintro _ _ w45 ⟨rfl, rfl⟩ hs46
    have hs47 := St.ap0 hs46
    have hk48 : (placeOf 6 gw gi gb 0).toNat < (wordsOf gw gi gb).toNat := by omega
    have hk49 : (placeOf 6 gw gi gb 0).toNat < (((((List.replicate ((wordsOf gw gi gb).toNat) (0 : Int)).set 0 32762617960297063).set 1 gw).set 2 gi).set 3 gb).length := by simp only [List.length_set, List.length_replicate]; exact hk48
    refine ops_R (runs_index (a := (some ⟨b17, 0, none⟩)) (n := (wordsOf gw gi gb).toNat) (z := (placeOf 6 gw gi gb 0)) (size := 1) ((placeOf 6 gw gi gb 0).toNat) (by omega) hk48 (kU64.addr (St.kcells kU64 hs47 0 rfl) hk49) (by kernel_rfl)) ?_
    refine ops_storeK kU64 (j := 0) (vs := [(.int .u64 3)]) 0 3 hs47 hk49 (Nat.le_of_ble_eq_true rfl) (by simp) rfl rfl (by kernel_rfl) (fun w50 hs51 => ?_)
    refine ops_done (by kernel_rfl) ?_
    refine hK44 _ _ ?_
    clear hK44
    refine W.seq fun K53 hK53 => ?_
    refine W.region ?_
    refine ops_run 1 (by kernel_rfl) ?_
    refine ops_R (runs_loadAgg (ad := ⟨b4, 0, none⟩) (cs := [(.int .i64 gw), (.int .i64 gi), (.int .i64 gb)]) (by kernel_rfl) (cells_sub (hs51.heapAt 1 rfl) rfl)) ?_
    refine ops_call0 hs51 (by kernel_rfl) (rbmapat_spec (gw := gw) (gi := gi) (gb := gb) B _) ?_
    rintro _ _ w54 ⟨rfl, rfl⟩ hs55
    have hs56 := St.ap0 hs55
    have hk57 : (placeOf 7 gw gi gb 0).toNat < (wordsOf gw gi gb).toNat := by omega
    have hk58 : (placeOf 7 gw gi gb 0).toNat < ((((((List.replicate ((wordsOf gw gi gb).toNat) (0 : Int)).set 0 32762617960297063).set 1 gw).set 2 gi).set 3 gb).set ((placeOf 6 gw gi gb 0).toNat) 3).length := by simp only [List.length_set, List.length_replicate]; exact hk57
    refine ops_R (runs_index (a := (some ⟨b17, 0, none⟩)) (n := (wordsOf gw gi gb).toNat) (z := (placeOf 7 gw gi gb 0)) (size := 1) ((placeOf 7 gw gi gb 0).toNat) (by omega) hk57 (kU64.addr (St.kcells kU64 hs56 0 rfl) hk58) (by kernel_rfl)) ?_
    refine ops_storeK kU64 (j := 0) (vs := [(.int .u64 1)]) 0 1 hs56 hk58 (Nat.le_of_ble_eq_true rfl) (by simp) rfl rfl (by kernel_rfl) (fun w59 hs60 => ?_)
    refine ops_done (by kernel_rfl) ?_
    refine hK53 _ _ ?_
    clear hK53
    refine W.seq fun K62 hK62 => ?_
    refine W.region ?_
    refine ops_run 1 (by kernel_rfl) ?_
    refine ops_R (runs_loadAgg (ad := ⟨b4, 0, none⟩) (cs := [(.int .i64 gw), (.int .i64 gi), (.int .i64 gb)]) (by kernel_rfl) (cells_sub (hs60.heapAt 1 rfl) rfl)) ?_
    refine ops_call0 hs60 (by kernel_rfl) (rinodeat_spec (gw := gw) (gi := gi) (gb := gb) (n_ := 1) B _) ?_
    rintro _ _ w63 ⟨rfl, rfl⟩ hs64
    have hs65 := St.ap0 hs64
    have hk66 : (placeOf 8 gw gi gb 1).toNat < (wordsOf gw gi gb).toNat := by omega
    have hk67 : (placeOf 8 gw gi gb 1).toNat < (((((((List.replicate ((wordsOf gw gi gb).toNat) (0 : Int)).set 0 32762617960297063).set 1 gw).set 2 gi).set 3 gb).set ((placeOf 6 gw gi gb 0).toNat) 3).set ((placeOf 7 gw gi gb 0).toNat) 1).length := by simp only [List.length_set, List.length_replicate]; exact hk66
    refine ops_R (runs_index (a := (some ⟨b17, 0, none⟩)) (n := (wordsOf gw gi gb).toNat) (z := (placeOf 8 gw gi gb 1)) (size := 1) ((placeOf 8 gw gi gb 1).toNat) (by omega) hk66 (kU64.addr (St.kcells kU64 hs65 0 rfl) hk67) (by kernel_rfl)) ?_
    refine ops_storeK kU64 (j := 0) (vs := [(.int .u64 2)]) 0 2 hs65 hk67 (Nat.le_of_ble_eq_true rfl) (by simp) rfl rfl (by kernel_rfl) (fun w68 hs69 => ?_)
    refine ops_done (by kernel_rfl) ?_
    refine hK62 _ _ ?_
    clear hK62
    refine W.seq fun K71 hK71 => ?_
    refine W.region ?_
    refine ops_run 1 (by kernel_rfl) ?_
    refine ops_R (runs_loadAgg (ad := ⟨b4, 0, none⟩) (cs := [(.int .i64 gw), (.int .i64 gi), (.int .i64 gb)]) (by kernel_rfl) (cells_sub (hs69.heapAt 1 rfl) rfl)) ?_
    refine ops_call0 hs69 (by kernel_rfl) (rinodeat_spec (gw := gw) (gi := gi) (gb := gb) (n_ := 1) B _) ?_
    rintro _ _ w72 ⟨rfl, rfl⟩ hs73
    have hs74 := St.ap0 hs73
    refine ops_val (v := .int .i64 (IntKind.i64.wrap ((placeOf 8 gw gi gb 1) + 1))) (v' := .int .i64 ((placeOf 8 gw gi gb 1) + 1)) (by kernel_rfl) (congrArg (Value.int .i64) (wrap_i64 (by omega) (by omega))) ?_
    have hk75 : ((placeOf 8 gw gi gb 1) + 1).toNat < (wordsOf gw gi gb).toNat := by omega
    have hk76 : ((placeOf 8 gw gi gb 1) + 1).toNat < ((((((((List.replicate ((wordsOf gw gi gb).toNat) (0 : Int)).set 0 32762617960297063).set 1 gw).set 2 gi).set 3 gb).set ((placeOf 6 gw gi gb 0).toNat) 3).set ((placeOf 7 gw gi gb 0).toNat) 1).set ((placeOf 8 gw gi gb 1).toNat) 2).length := by simp only [List.length_set, List.length_replicate]; exact hk75
    refine ops_R (runs_index (a := (some ⟨b17, 0, none⟩)) (n := (wordsOf gw gi gb).toNat) (z := ((placeOf 8 gw gi gb 1) + 1)) (size := 1) (((placeOf 8 gw gi gb 1) + 1).toNat) (by omega) hk75 (kU64.addr (St.kcells kU64 hs74 0 rfl) hk76) (by kernel_rfl)) ?_
    refine ops_storeK kU64 (j := 0) (vs := [(.int .u64 1)]) 0 1 hs74 hk76 (Nat.le_of_ble_eq_true rfl) (by simp) rfl rfl (by kernel_rfl) (fun w77 hs78 => ?_)
    refine ops_done (by kernel_rfl) ?_
    refine hK71 _ _ ?_
    clear hK71
    refine W.seq fun K80 hK80 => ?_
    refine W.region ?_
    refine ops_run 2 (by kernel_rfl) ?_
    refine ops_done (by kernel_rfl) ?_
    refine hK80 _ _ ?_
    clear hK80
    refine W.ret ?_
    have hs81 := St.tk1 hs78
    have e_ : (((((((((List.replicate ((wordsOf gw gi gb).toNat) (0 : Int)).set 0 32762617960297063).set 1 gw).set 2 gi).set 3 gb).set ((placeOf 6 gw gi gb 0).toNat) 3).set ((placeOf 7 gw gi gb 0).toNat) 1).set ((placeOf 8 gw gi gb 1).toNat) 2).set (((placeOf 8 gw gi gb 1) + 1).toNat) 1) = fmtW gw gi gb := (if_pos hm).symm
    have hs_ := hs81
    rw [e_] at hs_
    refine ret_of (.slice (some ⟨b17, 0, none⟩) ((wordsOf gw gi gb).toNat) ((wordsOf gw gi gb).toNat)) (by kernel_rfl) ⟨_, ⟨(some ⟨b17, 0, none⟩), (wordsOf gw gi gb).toNat, by rw [fmtW_len], rfl⟩, hs_⟩

set_option maxRecDepth 20000 in
theorem small_spec {x_ y_ : Int} (B : Nat) (w : World) (hx : 0 ≤ x_ ∧ x_ ≤ 255) (hy : 0 ≤ y_ ∧ y_ ≤ 255) : Spec Tryd.prog 39 #[(.int .u8 x_), (.int .u8 y_)] B w [] (fun v H' => v = .agg #[.int .i64 1, .int .i64 (2 + x_ % 20), .int .i64 (2 + y_ % 60)] ∧ H' = []) := by
  refine spec_Q Tryd.func39 rfl fun hs => ?_
  refine W.seq fun K1 hK1 => ?_
  refine W.region ?_
  refine ops_new (fun b => .pointer (some ⟨b, 0, none⟩)) (.cells [(.int .i64 0), (.int .i64 0), (.int .i64 0)].toArray 63 (0, 0)) hs (by kernel_rfl) (fun b4 w2 hs3 => ?_)
  refine ops_done (by kernel_rfl) ?_
  refine hK1 _ _ ?_
  clear hK1
  refine W.seq fun K5 hK5 => ?_
  refine W.region ?_
  refine ops_run 1 (by kernel_rfl) ?_
  refine ops_val (v := .int .i64 (IntKind.i64.wrap x_)) (v' := .int .i64 x_) (by kernel_rfl) (congrArg (Value.int .i64) (wrap_i64 (by omega) (by omega))) ?_
  obtain ⟨r6, hr7, hl8, he9⟩ := rem_nat (x := x_) (y := 20) (by omega) (by omega)
  refine ops_R (v := .int .i64 (r6 : Int)) (runs_rem (k := .i64) (a := x_) (b := 20) (by kernel_rfl) (by omega) hr7) ?_
  refine ops_val (v := .int .i64 (IntKind.i64.wrap (2 + (r6 : Int)))) (v' := .int .i64 (2 + (r6 : Int))) (by kernel_rfl) (congrArg (Value.int .i64) (wrap_i64 (by omega) (by omega))) ?_
  refine ops_run 1 (by kernel_rfl) ?_
  refine ops_val (v := .int .i64 (IntKind.i64.wrap y_)) (v' := .int .i64 y_) (by kernel_rfl) (congrArg (Value.int .i64) (wrap_i64 (by omega) (by omega))) ?_
  obtain ⟨r10, hr11, hl12, he13⟩ := rem_nat (x := y_) (y := 60) (by omega) (by omega)
  refine ops_R (v := .int .i64 (r10 : Int)) (runs_rem (k := .i64) (a := y_) (b := 60) (by kernel_rfl) (by omega) hr11) ?_
  refine ops_val (v := .int .i64 (IntKind.i64.wrap (2 + (r10 : Int)))) (v' := .int .i64 (2 + (r10 : Int))) (by kernel_rfl) (congrArg (Value.int .i64) (wrap_i64 (by omega) (by omega))) ?_
  refine ops_run 1 (by kernel_rfl) ?_
  refine ops_store (off := 0) (cs := [(.int .i64 0), (.int .i64 0), (.int .i64 0)]) (vs := [(.int .i64 1), (.int .i64 (2 + (r6 : Int))), (.int .i64 (2 + (r10 : Int)))]) hs3 (by kernel_rfl) (by simp) rfl (fun w14 hs15 => ?_)
  have hs16 : St B w [] w14 [blk b4 (.cells [(.int .i64 1), (.int .i64 (2 + (r6 : Int))), (.int .i64 (2 + (r10 : Int)))].toArray 63 (0, 0))] := hs15
  refine ops_done (by kernel_rfl) ?_
  refine hK5 _ _ ?_
  clear hK5
  refine W.ret ?_
  have hs17 := St.tk0 hs16
  refine ret_of (.agg #[(.int .i64 1), (.int .i64 (2 + (r6 : Int))), (.int .i64 (2 + (r10 : Int)))]) (results_cell (ad := ⟨b4, 0, none⟩) (cs := [(.int .i64 1), (.int .i64 (2 + (r6 : Int))), (.int .i64 (2 + (r10 : Int)))]) rfl (by kernel_rfl) (by kernel_rfl) (cells_sub (hs16.heapAt 0 rfl) rfl)) ⟨_, ⟨by simp only [*], rfl⟩, hs17⟩

end Go.Proofs.YthimamnblklkbaaDoor

/- Contracts of layout. -/
namespace Go.Proofs.YthimamnblklkbaaDoor
open Go Go.RowKit
set_option linter.unusedSimpArgs false
set_option linter.unusedVariables false

set_option maxRecDepth 20000 in
theorem blockat_spec {gw gi gb n_ : Int} (B : Nat) (w : World) : Spec Tryd.prog 80 #[(.agg #[(.int .i64 gw), (.int .i64 gi), (.int .i64 gb)]), (.int .i64 n_)] B w [] (fun v H' => v = .int .i64 (placeOf 9 gw gi gb n_) ∧ H' = []) := by
  refine spec_Q Tryd.func80 rfl fun hs => ?_
  refine W.seq fun K1 hK1 => ?_
  refine W.region ?_
  refine ops_new (fun b => .pointer (some ⟨b, 0, none⟩)) (.cells [(.int .i64 gw), (.int .i64 gi), (.int .i64 gb)].toArray 63 (0, 0)) hs (by kernel_rfl) (fun b4 w2 hs3 => ?_)
  refine ops_run 1 (by kernel_rfl) ?_
  refine ops_done (by kernel_rfl) ?_
  refine hK1 _ _ ?_
  clear hK1
  refine W.seq fun K5 hK5 => ?_
  refine W.region ?_
  refine ops_R (runs_loadAgg (ad := ⟨b4, 0, none⟩) (cs := [(.int .i64 gw), (.int .i64 gi), (.int .i64 gb)]) (by kernel_rfl) (cells_sub (hs3.heapAt 0 rfl) rfl)) ?_
  refine ops_run 1 (by kernel_rfl) ?_
  refine ops_call0 hs3 (by kernel_rfl) (place9_spec (gw := gw) (gi := gi) (gb := gb) (n_ := n_) B _) ?_
  rintro _ _ w6 ⟨rfl, rfl⟩ hs7
  have hs8 := St.ap0 hs7
  refine ops_run 1 (by kernel_rfl) ?_
  refine ops_done (by kernel_rfl) ?_
  refine hK5 _ _ ?_
  clear hK5
  refine W.ret ?_
  have hs9 := St.tk0 hs8
  refine ret_of (.int .i64 (placeOf 9 gw gi gb n_)) (by kernel_rfl) ⟨_, ⟨rfl, rfl⟩, hs9⟩

set_option maxRecDepth 20000 in
theorem lmap6_spec {gw gi gb : Int} (B : Nat) (w : World) : Spec Tryd.prog 122 #[(.agg #[(.int .i64 gw), (.int .i64 gi), (.int .i64 gb)])] B w [] (fun v H' => v = .int .i64 (placeOf 6 gw gi gb 0) ∧ H' = []) := by
  refine spec_Q Tryd.func122 rfl fun hs => ?_
  refine W.seq fun K1 hK1 => ?_
  refine W.region ?_
  refine ops_new (fun b => .pointer (some ⟨b, 0, none⟩)) (.cells [(.int .i64 gw), (.int .i64 gi), (.int .i64 gb)].toArray 63 (0, 0)) hs (by kernel_rfl) (fun b4 w2 hs3 => ?_)
  refine ops_run 1 (by kernel_rfl) ?_
  refine ops_done (by kernel_rfl) ?_
  refine hK1 _ _ ?_
  clear hK1
  refine W.seq fun K5 hK5 => ?_
  refine W.region ?_
  refine ops_R (runs_loadAgg (ad := ⟨b4, 0, none⟩) (cs := [(.int .i64 gw), (.int .i64 gi), (.int .i64 gb)]) (by kernel_rfl) (cells_sub (hs3.heapAt 0 rfl) rfl)) ?_
  refine ops_call0 hs3 (by kernel_rfl) (place6_spec (gw := gw) (gi := gi) (gb := gb) (n_ := 0) B _) ?_
  rintro _ _ w6 ⟨rfl, rfl⟩ hs7
  have hs8 := St.ap0 hs7
  refine ops_run 1 (by kernel_rfl) ?_
  refine ops_done (by kernel_rfl) ?_
  refine hK5 _ _ ?_
  clear hK5
  refine W.ret ?_
  have hs9 := St.tk0 hs8
  refine ret_of (.int .i64 (placeOf 6 gw gi gb 0)) (by kernel_rfl) ⟨_, ⟨rfl, rfl⟩, hs9⟩

set_option maxRecDepth 20000 in
theorem lmap7_spec {gw gi gb : Int} (B : Nat) (w : World) : Spec Tryd.prog 123 #[(.agg #[(.int .i64 gw), (.int .i64 gi), (.int .i64 gb)])] B w [] (fun v H' => v = .int .i64 (placeOf 7 gw gi gb 0) ∧ H' = []) := by
  refine spec_Q Tryd.func123 rfl fun hs => ?_
  refine W.seq fun K1 hK1 => ?_
  refine W.region ?_
  refine ops_new (fun b => .pointer (some ⟨b, 0, none⟩)) (.cells [(.int .i64 gw), (.int .i64 gi), (.int .i64 gb)].toArray 63 (0, 0)) hs (by kernel_rfl) (fun b4 w2 hs3 => ?_)
  refine ops_run 1 (by kernel_rfl) ?_
  refine ops_done (by kernel_rfl) ?_
  refine hK1 _ _ ?_
  clear hK1
  refine W.seq fun K5 hK5 => ?_
  refine W.region ?_
  refine ops_R (runs_loadAgg (ad := ⟨b4, 0, none⟩) (cs := [(.int .i64 gw), (.int .i64 gi), (.int .i64 gb)]) (by kernel_rfl) (cells_sub (hs3.heapAt 0 rfl) rfl)) ?_
  refine ops_call0 hs3 (by kernel_rfl) (place7_spec (gw := gw) (gi := gi) (gb := gb) (n_ := 0) B _) ?_
  rintro _ _ w6 ⟨rfl, rfl⟩ hs7
  have hs8 := St.ap0 hs7
  refine ops_run 1 (by kernel_rfl) ?_
  refine ops_done (by kernel_rfl) ?_
  refine hK5 _ _ ?_
  clear hK5
  refine W.ret ?_
  have hs9 := St.tk0 hs8
  refine ret_of (.int .i64 (placeOf 7 gw gi gb 0)) (by kernel_rfl) ⟨_, ⟨rfl, rfl⟩, hs9⟩

set_option maxRecDepth 20000 in
theorem rblockat_spec {gw gi gb n_ : Int} (B : Nat) (w : World) : Spec Tryd.prog 120 #[(.agg #[(.int .i64 gw), (.int .i64 gi), (.int .i64 gb)]), (.int .i64 n_)] B w [] (fun v H' => v = .int .i64 (placeOf 9 gw gi gb n_) ∧ H' = []) := by
  refine spec_Q Tryd.func120 rfl fun hs => ?_
  refine W.seq fun K1 hK1 => ?_
  refine W.region ?_
  refine ops_new (fun b => .pointer (some ⟨b, 0, none⟩)) (.cells [(.int .i64 gw), (.int .i64 gi), (.int .i64 gb)].toArray 88 (0, 0)) hs (by kernel_rfl) (fun b4 w2 hs3 => ?_)
  refine ops_run 1 (by kernel_rfl) ?_
  refine ops_done (by kernel_rfl) ?_
  refine hK1 _ _ ?_
  clear hK1
  refine W.seq fun K5 hK5 => ?_
  refine W.seq fun K6 hK6 => ?_
  refine W.region ?_
  refine ops_R (runs_loadAgg (ad := ⟨b4, 0, none⟩) (cs := [(.int .i64 gw), (.int .i64 gi), (.int .i64 gb)]) (by kernel_rfl) (cells_sub (hs3.heapAt 0 rfl) rfl)) ?_
  refine ops_call0 hs3 (by kernel_rfl) (rmay_spec (gw := gw) (gi := gi) (gb := gb) B _) ?_
  rintro _ _ w7 ⟨rfl, rfl⟩ hs8
  have hs9 := St.ap0 hs8
  refine ops_run 2 (by kernel_rfl) ?_
  rcases Bool.eq_false_or_eq_true (!(decide (May gw gi gb))) with h10 | h10
  ·
    have h10p : ¬ (May gw gi gb) := of_decide_eq_false (bnot_true h10)
    refine ops_set 8 (v := .bool true) (eq_bool_of (by kernel_rfl) h10) ?_
    refine ops_set 7 (v := .bool true) (eq_bool_of (by kernel_rfl) h10) ?_
    refine ops_run 9 (by kernel_rfl) ?_
    refine ops_done (by kernel_rfl) ?_
    refine hK6 _ _ ?_
    clear hK6
    refine W.cond_true true (by kernel_rfl) rfl ?_
    refine W.seq fun K11 hK11 => ?_
    refine W.region ?_
    refine ops_run 1 (by kernel_rfl) ?_
    refine ops_done (by kernel_rfl) ?_
    refine hK11 _ _ ?_
    clear hK11
    refine W.ret (ret_seq ?_)
    have hs12 := St.tk0 hs9
    refine ret_of (.int .i64 (-1)) (by kernel_rfl) ⟨_, ⟨congrArg (Value.int .i64) (by by_cases hm : May gw gi gb <;> first | contradiction | (have hm_ : (1 ≤ gw ∧ gw ≤ 4) ∧ (2 ≤ gi ∧ gi ≤ 64) ∧ (2 ≤ gb ∧ gb ≤ 512) := hm; simp only [placeOf, if_pos hm]; split <;> omega) | (simp only [placeOf, if_neg hm]; done)), rfl⟩, hs12⟩
  ·
    have h10p : May gw gi gb := of_decide_eq_true (bnot_false h10)
    have hm : May gw gi gb := h10p
    have hm_ : (1 ≤ gw ∧ gw ≤ 4) ∧ (2 ≤ gi ∧ gi ≤ 64) ∧ (2 ≤ gb ∧ gb ≤ 512) := hm
    refine ops_set 8 (v := .bool false) (eq_bool_of (by kernel_rfl) h10) ?_
    refine ops_set 7 (v := .bool false) (eq_bool_of (by kernel_rfl) h10) ?_
    refine ops_run 4 (by kernel_rfl) ?_
    rcases Bool.eq_false_or_eq_true (decide (n_ < 0)) with h13 | h13
    ·
      have h13p : n_ < 0 := of_decide_eq_true h13
      refine ops_set 12 (v := .bool true) (eq_bool_of (by kernel_rfl) h13) ?_
      refine ops_set 10 (v := .bool true) (eq_bool_of (by kernel_rfl) h13) ?_
      refine ops_set 11 (v := .bool true) (eq_bool_of (by kernel_rfl) h13) ?_
      refine ops_run 5 (by kernel_rfl) ?_
      refine ops_done (by kernel_rfl) ?_
      refine hK6 _ _ ?_
      clear hK6
      refine W.cond_true true (by kernel_rfl) rfl ?_
      refine W.seq fun K14 hK14 => ?_
      refine W.region ?_
      refine ops_run 1 (by kernel_rfl) ?_
      refine ops_done (by kernel_rfl) ?_
      refine hK14 _ _ ?_
      clear hK14
      refine W.ret (ret_seq ?_)
      have hs15 := St.tk0 hs9
      refine ret_of (.int .i64 (-1)) (by kernel_rfl) ⟨_, ⟨congrArg (Value.int .i64) (by by_cases hm : May gw gi gb <;> first | contradiction | (have hm_ : (1 ≤ gw ∧ gw ≤ 4) ∧ (2 ≤ gi ∧ gi ≤ 64) ∧ (2 ≤ gb ∧ gb ≤ 512) := hm; simp only [placeOf, if_pos hm]; split <;> omega) | (simp only [placeOf, if_neg hm]; done)), rfl⟩, hs15⟩
    ·
      have h13p : ¬ (n_ < 0) := of_decide_eq_false h13
      refine ops_set 12 (v := .bool false) (eq_bool_of (by kernel_rfl) h13) ?_
      refine ops_set 10 (v := .bool false) (eq_bool_of (by kernel_rfl) h13) ?_
      refine ops_set 11 (v := .bool false) (eq_bool_of (by kernel_rfl) h13) ?_
      refine ops_run 2 (by kernel_rfl) ?_
      refine ops_R (runs_load (ad := ⟨b4, 2, none⟩) (v := (.int .i64 gb)) (by kernel_rfl) (hs9.cellAt 0 rfl rfl)) ?_
      refine ops_run 2 (by kernel_rfl) ?_
      refine ops_done (by kernel_rfl) ?_
      refine hK6 _ _ ?_
      clear hK6
      refine W.cond (decide (n_ ≥ gb)) (by kernel_rfl) (fun h16 => ?_) (fun h16 => ?_)
      ·
        have h16p : n_ ≥ gb := of_decide_eq_true h16
        refine W.seq fun K17 hK17 => ?_
        refine W.region ?_
        refine ops_run 1 (by kernel_rfl) ?_
        refine ops_done (by kernel_rfl) ?_
        refine hK17 _ _ ?_
        clear hK17
        refine W.ret (ret_seq ?_)
        have hs18 := St.tk0 hs9
        refine ret_of (.int .i64 (-1)) (by kernel_rfl) ⟨_, ⟨congrArg (Value.int .i64) (by by_cases hm : May gw gi gb <;> first | contradiction | (have hm_ : (1 ≤ gw ∧ gw ≤ 4) ∧ (2 ≤ gi ∧ gi ≤ 64) ∧ (2 ≤ gb ∧ gb ≤ 512) := hm; simp only [placeOf, if_pos hm]; split <;> omega) | (simp only [placeOf, if_neg hm]; done)), rfl⟩, hs18⟩
      ·
        have h16p : ¬ (n_ ≥ gb) := of_decide_eq_false h16
        refine W.skip ?_
        refine hK5 _ _ ?_
        clear hK5
        refine W.seq fun K19 hK19 => ?_
        have hs20 := hs9.drew
        refine W.regionD [(0, 0), (1, 1), (2, 2), (0, 0), (8, 8), (16, 16), (36, 36), (0, 0), (128, 128), (320, 320), (1023, 512)] (fun w_ => St B w [] w_ [blk b4 (.cells [(.int .i64 gw), (.int .i64 gi), (.int .i64 gb)].toArray 88 (0, 0))]) (by kernel_rfl) hs20 ?_
        refine any_R 0 (by kernel_rfl) (fun _ hS_ => runs_loadAgg (ad := ⟨b4, 0, none⟩) (cs := [(.int .i64 gw), (.int .i64 gi), (.int .i64 gb)]) (by kernel_rfl) (cells_sub (hS_.heapAt 0 rfl) rfl)) hs20 ?_
        refine any_val (v := (.pointer (some ⟨b4, 1, none⟩))) (v' := (.pointer (some ⟨b4, 1, none⟩))) 3 (by kernel_rfl) (fun _ => by kernel_rfl) rfl hs20 ?_
        refine any_R 4 (by kernel_rfl) (fun _ hS_ => runs_load (ad := ⟨b4, 1, none⟩) (v := (.int .i64 gi)) (by kernel_rfl) (hS_.cellAt 0 rfl rfl)) hs20 ?_
        refine any_val (v := .int .i64 (IntKind.i64.wrap (16 * gi))) (v' := .int .i64 (16 * gi)) 5 (by kernel_rfl) (fun _ => by kernel_rfl) (congrArg (Value.int .i64) (wrap_i64 (by omega) (by omega))) hs20 ?_
        refine any_val (v := (.int .i64 n_)) (v' := (.int .i64 n_)) 7 (by kernel_rfl) (fun _ => by kernel_rfl) rfl hs20 ?_
        refine any_val (v := .int .i64 (IntKind.i64.wrap (8 * n_))) (v' := .int .i64 (8 * n_)) 8 (by kernel_rfl) (fun _ => by kernel_rfl) (congrArg (Value.int .i64) (wrap_i64 (by omega) (by omega))) hs20 ?_
        refine any_step 1 (by kernel_rfl) (by kernel_rfl) ?_
        refine ops_call0 hs20 (by kernel_rfl) (maps_spec (hm := hm) (gw := gw) (gi := gi) (gb := gb) B _) ?_
        rintro _ _ w21 ⟨rfl, rfl⟩ hs22
        have hs23 := St.ap0 hs22
        refine ops_done (by kernel_rfl) ⟨hs23, ?_⟩
        refine any_val (v := .int .i64 (IntKind.i64.wrap ((264 + 208 * gw) + 16))) (v' := .int .i64 ((264 + 208 * gw) + 16)) 2 (by kernel_rfl) (fun _ => by kernel_rfl) (congrArg (Value.int .i64) (wrap_i64 (by omega) (by omega))) hs23 ?_
        refine any_val (v := .int .i64 (IntKind.i64.wrap (((264 + 208 * gw) + 16) + (16 * gi)))) (v' := .int .i64 (((264 + 208 * gw) + 16) + (16 * gi))) 6 (by kernel_rfl) (fun _ => by kernel_rfl) (congrArg (Value.int .i64) (wrap_i64 (by omega) (by omega))) hs23 ?_
        refine any_val (v := .int .i64 (IntKind.i64.wrap ((((264 + 208 * gw) + 16) + (16 * gi)) + (8 * n_)))) (v' := .int .i64 ((((264 + 208 * gw) + 16) + (16 * gi)) + (8 * n_))) 9 (by kernel_rfl) (fun _ => by kernel_rfl) (congrArg (Value.int .i64) (wrap_i64 (by omega) (by omega))) hs23 ?_
        refine any_val (v := (.int .i64 ((((264 + 208 * gw) + 16) + (16 * gi)) + (8 * n_)))) (v' := (.int .i64 ((((264 + 208 * gw) + 16) + (16 * gi)) + (8 * n_)))) 10 (by kernel_rfl) (fun _ => by kernel_rfl) rfl hs23 ?_
        refine any_done (by kernel_rfl) ?_
        refine hK19 _ _ ?_
        clear hK19
        refine W.ret ?_
        have hs24 := St.tk0 hs23
        refine ret_of (.int .i64 ((((264 + 208 * gw) + 16) + (16 * gi)) + (8 * n_))) (by kernel_rfl) ⟨_, ⟨congrArg (Value.int .i64) (by by_cases hm : May gw gi gb <;> first | contradiction | (have hm_ : (1 ≤ gw ∧ gw ≤ 4) ∧ (2 ≤ gi ∧ gi ≤ 64) ∧ (2 ≤ gb ∧ gb ≤ 512) := hm; simp only [placeOf, if_pos hm]; split <;> omega) | (simp only [placeOf, if_neg hm]; done)), rfl⟩, hs24⟩

end Go.Proofs.YthimamnblklkbaaDoor

/- Steps: functions that set a word, as lists; texts out of bytes, bytes out of texts. -/
namespace Go.Proofs.YthimamnblklkbaaDoor
open Go Go.RowKit
set_option linter.unusedVariables false

/-- a step: the blocks of its place and of its word. -/
def kStep : Kind (Nat × Nat) := ⟨172, 1, fun x => [.func (.func 144) #[] #[ptr x.1, ptr x.2]], by decide, fun _ => rfl, fun _ => rfl⟩
def boxL : List (Nat × Nat) → List (Int × Int) → List Asn
  | b :: bs, x :: xs => blk b.1 (.cells [.int .i64 x.1].toArray 3 (0, 0)) :: blk b.2 (.cells [.int .u64 x.2].toArray 38 (0, 0)) :: boxL bs xs
  | _, _ => []
def boxesA (bs : List (Nat × Nat)) (xs : List (Int × Int)) : Asn := exA (fun _ : Unit => bs.length = xs.length) (fun _ => boxL bs xs)
def stepsA (a : Option Addr) (c : Nat) (xs : List (Int × Int)) : Asn := exA (fun bs : List (Nat × Nat) => bs.length = xs.length) (fun bs => [kStep.row a c bs, boxesA bs xs])

section
variable {B : Nat} {w0 w : World} {l0 : List Nat} {R : List Asn}
theorem St.steps_open {a : Option Addr} {c : Nat} {xs : List (Int × Int)} (h : St B w0 l0 w (stepsA a c xs :: R)) : ∃ bs : List (Nat × Nat), bs.length = xs.length ∧ St B w0 l0 w (kStep.row a c bs :: boxesA bs xs :: R) := by
  obtain ⟨bs, hb, h'⟩ := St.open h
  exact ⟨bs, hb, h'⟩
theorem St.steps_close {a : Option Addr} {c : Nat} {bs : List (Nat × Nat)} {xs : List (Int × Int)} (hb : bs.length = xs.length) (h : St B w0 l0 w (kStep.row a c bs :: boxesA bs xs :: R)) : St B w0 l0 w (stepsA a c xs :: R) :=
  St.close (F := fun bs : List (Nat × Nat) => bs.length = xs.length) (Hs := fun bs => [kStep.row a c bs, boxesA bs xs]) bs hb h
theorem St.boxes_nil (h : St B w0 l0 w R) : St B w0 l0 w (boxesA [] [] :: R) :=
  St.close (F := fun _ : Unit => ([] : List (Nat × Nat)).length = ([] : List (Int × Int)).length) (Hs := fun _ => boxL [] []) () rfl h
theorem boxL_append : ∀ (bs cs : List (Nat × Nat)) (xs ys : List (Int × Int)), bs.length = xs.length → boxL (bs ++ cs) (xs ++ ys) = boxL bs xs ++ boxL cs ys
  | [], cs, [], ys, _ => rfl
  | b :: bs, cs, x :: xs, ys, h => by
    simp only [List.cons_append, boxL, boxL_append bs cs xs ys (by simpa using h)]
  | [], _, _ :: _, _, h => by simp at h
  | _ :: _, _, [], _, h => by simp at h
theorem St.boxes_push {bs : List (Nat × Nat)} {xs : List (Int × Int)} {b1 b2 : Nat} {x y : Int} (h : St B w0 l0 w (boxesA bs xs :: blk b1 (.cells [.int .i64 x].toArray 3 (0, 0)) :: blk b2 (.cells [.int .u64 y].toArray 38 (0, 0)) :: R)) :
    St B w0 l0 w (boxesA (bs ++ [(b1, b2)]) (xs ++ [(x, y)]) :: R) := by
  obtain ⟨_, hb, h'⟩ := St.open h
  refine St.close (F := fun _ : Unit => (bs ++ [(b1, b2)]).length = (xs ++ [(x, y)]).length) (Hs := fun _ => boxL (bs ++ [(b1, b2)]) (xs ++ [(x, y)])) () (by simp [hb]) ?_
  have e := boxL_append bs [(b1, b2)] xs [(x, y)] hb
  show St B w0 l0 w (boxL (bs ++ [(b1, b2)]) (xs ++ [(x, y)]) ++ R)
  rw [e, List.append_assoc]
  exact h'
theorem sep_boxL {B : Nat} {w : World} : ∀ {bs : List (Nat × Nat)} {xs : List (Int × Int)} {l : List Nat}, bs.length = xs.length → Sep B w (boxL bs xs) l → ∀ k, k < xs.length →
    w.heap[(bs.getD k (0, 0)).1]? = some (.cells [.int .i64 (xs.getD k (0, 0)).1].toArray 3 (0, 0)) ∧ w.heap[(bs.getD k (0, 0)).2]? = some (.cells [.int .u64 (xs.getD k (0, 0)).2].toArray 38 (0, 0))
  | [], [], _, _, _, k, hk => by simp at hk
  | b :: bs, x :: xs, l, h, hs, k, hk => by
    obtain ⟨l1, l2, h1, h2, _, _⟩ := hs
    obtain ⟨l3, l4, h3, h4, _, _⟩ := h2
    cases k with
    | zero => exact ⟨h1.2.1, h3.2.1⟩
    | succ k => exact sep_boxL (bs := bs) (xs := xs) (by simpa using h) h4 k (by simpa using hk)
  | [], _ :: _, _, h, _, _, _ => by simp at h
  | _ :: _, [], _, h, _, _, _ => by simp at h
theorem boxes_at {bs : List (Nat × Nat)} {xs : List (Int × Int)} {B : Nat} {w : World} {l : List Nat} (h : (boxesA bs xs).P B w l) : ∀ k, k < xs.length →
    w.heap[(bs.getD k (0, 0)).1]? = some (.cells [.int .i64 (xs.getD k (0, 0)).1].toArray 3 (0, 0)) ∧ w.heap[(bs.getD k (0, 0)).2]? = some (.cells [.int .u64 (xs.getD k (0, 0)).2].toArray 38 (0, 0)) := by
  obtain ⟨_, hb, hs⟩ := h
  exact sep_boxL hb hs
theorem St.steps_nil (h : St B w0 l0 w R) : St B w0 l0 w (stepsA none 0 [] :: R) := St.steps_close (bs := []) rfl (St.knil kStep (St.boxes_nil h))
theorem St.steps_three {sb b1 b2 b3 b4 b5 b6 : Nat} {x1 x2 x3 y1 y2 y3 : Int} (h : St B w0 l0 w (blk sb (.cells [.func (.func 144) #[] #[ptr b1, ptr b2], .func (.func 144) #[] #[ptr b3, ptr b4], .func (.func 144) #[] #[ptr b5, ptr b6]].toArray 172 (0, 0)) ::
      blk b1 (.cells [.int .i64 x1].toArray 3 (0, 0)) :: blk b2 (.cells [.int .u64 y1].toArray 38 (0, 0)) :: blk b3 (.cells [.int .i64 x2].toArray 3 (0, 0)) :: blk b4 (.cells [.int .u64 y2].toArray 38 (0, 0)) :: blk b5 (.cells [.int .i64 x3].toArray 3 (0, 0)) :: blk b6 (.cells [.int .u64 y3].toArray 38 (0, 0)) :: R)) :
    St B w0 l0 w (stepsA (some ⟨sb, 0, none⟩) 3 [(x1, y1), (x2, y2), (x3, y3)] :: R) := by
  have h1 := St.kblk kStep [(b1, b2), (b3, b4), (b5, b6)] h rfl rfl (by simp only [List.length_cons, List.length_nil]; decide)
  have h2 := St.boxes_push (St.f2 (St.f3 (St.f3 (St.boxes_nil h1))))
  have h3 := St.boxes_push (St.f2 (St.f3 (St.f3 h2)))
  have h4 := St.boxes_push (St.f2 (St.f3 (St.f3 h3)))
  exact St.steps_close (bs := [(b1, b2), (b3, b4), (b5, b6)]) rfl (St.f1 h4)
end

section
variable {M : Bool} {P : Program} {ops : Array Oper} {i : Nat} {s : Fs} {w w' : World} {K : Fs → World → Prop}
/-- one step behind the others. -/
theorem ops_appendSteps {B : Nat} {w0 : World} {l0 : List Nat} {R : List Asn} {bytes : Nat} {a : Option Addr} {c sb b1 b2 : Nat} {xs : List (Int × Int)} {x y : Int}
    (hs : St B w0 l0 w (stepsA a c xs :: blk sb (.cells [.func (.func 144) #[] #[ptr b1, ptr b2]].toArray 172 (0, 0)) :: blk b1 (.cells [.int .i64 x].toArray 3 (0, 0)) :: blk b2 (.cells [.int .u64 y].toArray 38 (0, 0)) :: R))
    (hq : appQ P ops i s kStep.e = some ((a, xs.length, c), (some ⟨sb, 0, none⟩, 1, 1), 1, bytes)) (h63 : xs.length + 1 ≤ maxLen) (hb : (xs.length + 1) * bytes ≤ 140737488355328)
    (hk : ∀ a'' c'' w', St B w0 l0 w' (stepsA a'' c'' (xs ++ [(x, y)]) :: R) → OpsAt M P ops (i + 1) (putS s (dstOf ops i) (.slice a'' (xs ++ [(x, y)]).length c'')) w' K) : OpsAt M P ops i s w K := by
  obtain ⟨bs, hbs, h1⟩ := St.steps_open hs
  rw [← hbs] at hq h63 hb
  have h2 := St.f2 h1
  refine ops_appendK kStep (a := a) (a' := some ⟨sb, 0, none⟩) (c := c) (c' := 1) (l := bs) (m := [(b1, b2)]) h1 hq (by simp) (cells_blk (h2.heapAt 0 rfl)) h63 hb fun a'' c'' w' h3 => ?_
  have e : (bs ++ [(b1, b2)]).length = (xs ++ [(x, y)]).length := by simp [hbs]
  rw [e]
  refine hk a'' c'' w' ?_
  have h4 := St.boxes_push (St.f3 (St.f4 (St.f4 h3)))
  exact St.steps_close e (St.f1 (St.drop (St.f2 h4)))

/-- two steps behind the others. -/
theorem ops_appendSteps2 {B : Nat} {w0 : World} {l0 : List Nat} {R : List Asn} {bytes : Nat} {a : Option Addr} {c sb b1 b2 b3 b4 : Nat} {xs : List (Int × Int)} {x y x' y' : Int}
    (hs : St B w0 l0 w (stepsA a c xs :: blk sb (.cells [.func (.func 144) #[] #[ptr b1, ptr b2], .func (.func 144) #[] #[ptr b3, ptr b4]].toArray 172 (0, 0)) :: blk b1 (.cells [.int .i64 x].toArray 3 (0, 0)) :: blk b2 (.cells [.int .u64 y].toArray 38 (0, 0)) :: blk b3 (.cells [.int .i64 x'].toArray 3 (0, 0)) :: blk b4 (.cells [.int .u64 y'].toArray 38 (0, 0)) :: R))
    (hq : appQ P ops i s kStep.e = some ((a, xs.length, c), (some ⟨sb, 0, none⟩, 2, 2), 1, bytes)) (h63 : xs.length + 2 ≤ maxLen) (hb : (xs.length + 2) * bytes ≤ 140737488355328)
    (hk : ∀ a'' c'' w', St B w0 l0 w' (stepsA a'' c'' (xs ++ [(x, y), (x', y')]) :: R) → OpsAt M P ops (i + 1) (putS s (dstOf ops i) (.slice a'' (xs ++ [(x, y), (x', y')]).length c'')) w' K) : OpsAt M P ops i s w K := by
  obtain ⟨bs, hbs, h1⟩ := St.steps_open hs
  rw [← hbs] at hq h63 hb
  have h2 := St.f2 h1
  refine ops_appendK kStep (a := a) (a' := some ⟨sb, 0, none⟩) (c := c) (c' := 2) (l := bs) (m := [(b1, b2), (b3, b4)]) h1 hq (by simp) (cells_blk (h2.heapAt 0 rfl)) h63 hb fun a'' c'' w' h3 => ?_
  have e : (bs ++ [(b1, b2), (b3, b4)]).length = (xs ++ [(x, y), (x', y')]).length := by simp [hbs]
  rw [e]
  refine hk a'' c'' w' ?_
  have h4 := St.boxes_push (St.f3 (St.f4 (St.f4 h3)))
  have h5 := St.boxes_push (St.f2 (St.f4 (St.f4 h4)))
  rw [List.append_assoc, List.append_assoc] at h5
  exact St.steps_close e (St.f1 (St.drop (St.f2 h5)))

theorem resD_three {P : Program} {s : Fs} {w : World} {fn : Func} {r q p : ResultVar} {v u z : Value} (hr : fn.results = #[r, q, p]) (h : ResAt P s w r v) (h' : ResAt P s w q u) (h'' : ResAt P s w p z) : (resD fn s).run P w = .ok (.tuple #[v, u, z]) w := by
  have h1 := h.run
  have h2 := h'.run
  have h3 := h''.run
  unfold resD
  rw [hr]
  simp [Sem.run_bind, h1, h2, h3]

/-! ### texts -/
theorem kU8_cells (xs : List Int) : kU8.cells xs = xs.map (Value.int .u8) := by
  induction xs with
  | nil => rfl
  | cons x xs ih => rw [Kind.cells_cons, ih]; rfl
theorem cells_nil_none {α : Type} (Kd : Kind α) (w : World) : CellsAt none (Kd.cells []) w := rfl
def strConvQ (P : Program) (ops : Array Oper) (i : Nat) (s : Fs) : Option (Option Addr × Nat × Nat) :=
  match opQ ops i s with
  | some o => match o.op with
    | .convert src dst x => match P.underlying src, P.underlying dst, evS s x with
      | some (.slice e), some .string, .slice a n c => match P.underlying e with
        | some (.int .u8) => some (a, n, c)
        | _ => none
      | _, _, _ => none
    | _ => none
  | none => none
theorem runs_bytesStr {a : Option Addr} {n c : Nat} {xs : List Int} (hc : CellsAt a (kU8.cells xs) w) (hn : n = xs.length) (hq : strConvQ P ops i s = some (a, n, c)) : RunsTo P ops i s w (.string (strOfNums xs)) w := by
  subst hn
  unfold strConvQ at hq
  split at hq
  · rename_i o ho
    split at hq
    · rename_i src dst x hop
      refine ⟨_, ho, ?_⟩
      split at hq
      · rename_i e a' n' c' hsrc hdst hx
        split at hq
        · rename_i he
          simp only [Option.some.injEq, Prod.mk.injEq] at hq
          obtain ⟨rfl, rfl, rfl⟩ := hq
          have hr : (convert src dst (.slice a' xs.length c')).run P w = .ok (.string (strOfNums xs)) w := by
            cases a' with
            | none =>
              have h0 := cells_none kU8 hc
              subst h0
              exact run_convert_bytes_nil w src e hsrc he _ _ dst hdst
            | some ad =>
              have hl : (loadCells ad xs.length).run P w = .ok (xs.map (Value.int .u8)).toArray w := by
                have h := run_loadCells_list (P := P) w ad (xs.map (Value.int .u8)) (fun j v hj => hc j v (by rw [kU8_cells]; exact hj))
                simpa using h
              rw [run_convert_bytes_string w src dst e _ _ _ hsrc he hdst, run_bytesToString w _ _ _ xs hl, foldl_push_bytes]
              simp [strOfNums, ByteArray.empty, ByteArray.emptyWithCapacity]
              rfl
          simp only [execOp, hop, hx, Sem.run_bind, Result.andThen_ok, hr, Sem.run_pure]
        · cases hq
      · cases hq
    · cases hq
  · cases hq
end
end Go.Proofs.YthimamnblklkbaaDoor

/- A text's bytes. -/
namespace Go.Proofs.YthimamnblklkbaaDoor
open Go Go.RowKit
set_option linter.unusedVariables false
@[simp] theorem beq_bytes (a b : ByteArray) : ((a == b) = true) ↔ a = b := by
  constructor
  · intro h
    cases a with | mk x => cases b with | mk y =>
    have : (x == y) = true := h
    rw [beq_iff_eq.1 this]
  · rintro rfl
    cases a with | mk x => exact (show (x == x) = true from beq_self_eq_true x)
@[simp] theorem beq_bytes_false (a b : ByteArray) : ((a == b) = false) ↔ ¬ (a = b) := by
  rw [← beq_bytes, Bool.not_eq_true]
section
variable {P : Program} {ops : Array Oper} {i : Nat} {s : Fs} {w : World}
/-- a text's byte. -/
def sbyte (s : ByteArray) (k : Int) : Int := (((s[k.toNat]?).getD 0).toNat : Int)
theorem sbyte_range (s : ByteArray) (k : Int) : 0 ≤ sbyte s k ∧ sbyte s k ≤ 255 := by
  unfold sbyte
  have := (((s[k.toNat]?).getD 0)).toNat_lt
  omega
def strIdxQ (P : Program) (ops : Array Oper) (i : Nat) (s : Fs) : Option (ByteArray × Int) :=
  match opQ ops i s with
  | some o => match o.op with
    | .index t x y => match P.underlying t, evS s x, evS s y with
      | some .string, .string b, .int _ k => some (b, k)
      | _, _, _ => none
    | _ => none
  | none => none
theorem runs_strIdx {b : ByteArray} {k : Int} (hk : 0 ≤ k ∧ k < (b.size : Int)) (hq : strIdxQ P ops i s = some (b, k)) : RunsTo P ops i s w (.int .u8 (sbyte b k)) w := by
  unfold strIdxQ at hq
  split at hq
  · rename_i o ho
    split at hq
    · rename_i t x y hop
      refine ⟨_, ho, ?_⟩
      split at hq
      · rename_i b' kk k' hu hx hy
        simp only [Option.some.injEq, Prod.mk.injEq] at hq
        obtain ⟨rfl, rfl⟩ := hq
        have hun := run_underlying (P := P) hu w
        have hn : k'.toNat < b'.size := by omega
        have hg : b'[k'.toNat]? = some b'[k'.toNat] := getElem?_pos b' _ hn
        simp only [execOp, hop, hx, hy, Instr.index, asIntOf, Sem.run_bind, Sem.run_pure, Result.andThen_ok, hun, if_pos hk.1, hg, sbyte, Option.getD_some]
      · cases hq
    · cases hq
  · cases hq
end
section
variable {α : Type} (K : Kind α) {M : Bool} {P : Program} {ops : Array Oper} {i : Nat} {s : Fs} {w : World} {Q : Fs → World → Prop} {B : Nat} {w0 : World} {l0 : List Nat} {H R : List Asn}
theorem ops_appendKn {bytes : Nat} {a a' : Option Addr} {c c' n n' : Nat} {l m : List α} (hs : St B w0 l0 w (K.row a c l :: R)) (hn : n = l.length) (hn' : n' = m.length) (hq : appQ P ops i s K.e = some ((a, n, c), (a', n', c'), K.size, bytes))
    (hc : a' = none → c' = 0) (hm : CellsAt a' (K.cells m) w) (h63 : l.length + m.length ≤ maxLen) (hb : (l.length + m.length) * bytes ≤ 140737488355328)
    (hk : ∀ a'' c'' w', St B w0 l0 w' (K.row a'' c'' (l ++ m) :: R) → OpsAt M P ops (i + 1) (putS s (dstOf ops i) (.slice a'' (l ++ m).length c'')) w' Q) : OpsAt M P ops i s w Q := by
  subst hn hn'
  exact ops_appendK K hs hq hc hm h63 hb hk
end
end Go.Proofs.YthimamnblklkbaaDoor

/- Where sessions, slots and descriptors stand: plain. -/
namespace Go.Proofs.YthimamnblklkbaaDoor
open Go Go.RowKit
def sessAt (i : Int) : Int := if 0 ≤ i ∧ i < 4 then 8 + 64 * i else -1
def slotAt (i k : Int) : Int := if (0 ≤ i ∧ i < 4) ∧ 0 ≤ k ∧ k < 4 then 16 + 64 * i + 12 * k else -1
def descAt (i k : Int) : Int := if (0 ≤ i ∧ i < 4) ∧ 0 ≤ k ∧ k < 4 then 64 + 64 * i + 2 * k else -1
theorem sess_range (i : Int) : (sessAt i = -1 ∧ ¬ (0 ≤ i ∧ i < 4)) ∨ (sessAt i = 8 + 64 * i ∧ 0 ≤ i ∧ i < 4) := by
  unfold sessAt; split <;> omega
theorem place2_eq (i : Int) : placeOf 2 1 2 2 i = sessAt i := by
  unfold placeOf sessAt
  rw [if_pos (show May 1 2 2 by unfold May; omega)]
  rfl
end Go.Proofs.YthimamnblklkbaaDoor

/- Steps one behind the other: plain. -/
namespace Go.Proofs.YthimamnblklkbaaDoor
open Go Go.RowKit
/-- words set where they are others, one behind the other. -/
def vsets (img : List Int) : List (Int × Int) → List (Int × Int) → Int × List (Int × Int)
  | l, [] => (0, l)
  | l, x :: xs => if (vwrite img l x.1 x.2).1 = 0 then vsets img (vwrite img l x.1 x.2).2 xs else vwrite img l x.1 x.2
theorem vsets_step {img : List Int} {m xs : List (Int × Int)} {k : Nat} (hk : k < xs.length) :
    vsets img m (xs.drop k) = if (vwrite img m (xs.getD k (0, 0)).1 (xs.getD k (0, 0)).2).1 = 0 then vsets img (vwrite img m (xs.getD k (0, 0)).1 (xs.getD k (0, 0)).2).2 (xs.drop (k + 1)) else vwrite img m (xs.getD k (0, 0)).1 (xs.getD k (0, 0)).2 := by
  have e : xs.drop k = xs.getD k (0, 0) :: xs.drop (k + 1) := by
    rw [List.drop_eq_getElem_cons hk]
    simp [hk]
  rw [e]
  rfl
end Go.Proofs.YthimamnblklkbaaDoor

/- What a word may be; views whose words may all be. -/
namespace Go.Proofs.YthimamnblklkbaaDoor
open Go Go.RowKit
set_option linter.unusedVariables false

/-- what a word may be. -/
def U64 (v : Int) : Prop := 0 ≤ v ∧ v < 18446744073709551616
theorem u64_zero : U64 0 := by unfold U64; omega
/-- every word may be. -/
def VR (img : List Int) (l : List (Int × Int)) : Prop := ∀ k, U64 (vget img l k)
theorem VR.nil {img : List Int} (h : ∀ x ∈ img, U64 x) : VR img [] := by
  intro k
  unfold vget
  split
  · simp only [show vlook [] k = none from rfl, Option.getD_none]
    rw [List.getD_eq_getElem?_getD]
    rcases Nat.lt_or_ge k.toNat img.length with hk | hk
    · rw [List.getElem?_eq_getElem hk]; exact h _ (List.getElem_mem hk)
    · rw [List.getElem?_eq_none hk]; exact u64_zero
  · exact u64_zero
theorem VR.put {img : List Int} {l : List (Int × Int)} {a x : Int} (h : VR img l) (ha : 0 ≤ a ∧ a < img.length) (hx : U64 x) : VR img (vset l a x) := by
  intro k
  rw [vget_vset ha]
  split
  · exact hx
  · exact h k
theorem vget_out {img : List Int} {l : List (Int × Int)} {k : Int} (h : ¬ (0 ≤ k ∧ k < img.length)) : vget img l k = 0 := by
  unfold vget; rw [if_neg h]
theorem vget_flat {img : List Int} {l : List (Int × Int)} (hok : VOk img l) (k : Int) : vget (vflat img l) [] k = vget img l k := by
  have hl := vflat_length img l
  by_cases h : 0 ≤ k ∧ k < img.length
  · obtain ⟨n, rfl⟩ := Int.eq_ofNat_of_zero_le h.1
    rw [vget_nil (by omega), vflat_get hok (by omega)]
  · rw [vget_out h, vget_out (by rw [hl]; exact h)]
theorem u64_flat {img : List Int} {l : List (Int × Int)} (hok : VOk img l) (hv : VR img l) : ∀ x ∈ vflat img l, U64 x := by
  intro x hx
  obtain ⟨k, hk, rfl⟩ := List.getElem_of_mem hx
  have hl := vflat_length img l
  have e := vflat_get hok (k := k) (by omega)
  rw [List.getD_eq_getElem?_getD, List.getElem?_eq_getElem hk] at e
  simp only [Option.getD_some] at e
  rw [e]
  exact hv _
theorem getD_u64 {ws : List Int} (h : ∀ x ∈ ws, U64 x) (k : Nat) : U64 (ws.getD k 0) := by
  rw [List.getD_eq_getElem?_getD]
  rcases Nat.lt_or_ge k ws.length with hk | hk
  · rw [List.getElem?_eq_getElem hk]; exact h _ (List.getElem_mem hk)
  · rw [List.getElem?_eq_none hk]; exact u64_zero
theorem fmtW_u64 {gw gi gb : Int} : ∀ x ∈ fmtW gw gi gb, U64 x := by
  intro x hx
  unfold fmtW at hx
  split at hx
  · rename_i hm
    have hm_ := may_out hm
    unfold U64
    rcases List.mem_or_eq_of_mem_set hx with hx | rfl
    · rcases List.mem_or_eq_of_mem_set hx with hx | rfl
      · rcases List.mem_or_eq_of_mem_set hx with hx | rfl
        · rcases List.mem_or_eq_of_mem_set hx with hx | rfl
          · rcases List.mem_or_eq_of_mem_set hx with hx | rfl
            · rcases List.mem_or_eq_of_mem_set hx with hx | rfl
              · rcases List.mem_or_eq_of_mem_set hx with hx | rfl
                · rcases List.mem_or_eq_of_mem_set hx with hx | rfl
                  · have := List.eq_of_mem_replicate hx
                    omega
                  · omega
                · omega
              · omega
            · omega
          · omega
        · omega
      · omega
    · omega
  · simp at hx
end Go.Proofs.YthimamnblklkbaaDoor

/- How a value of integers, truth values and texts reads, however its type is built. -/
namespace Go.Proofs.YthimamnblklkbaaDoor
namespace WithText
open Go.ChangeShapes Go.WideShapes Go.ChangeAt Go.RowKit Go.Deep

inductive Leaf where
  | int (k : IntKind)
  | bool
  | string

def LeafOk : Leaf → Value → Prop
  | .int k, v => ∃ z, v = .int k z ∧ (Lit.int k z).wf = true
  | .bool, v => ∃ b, v = .bool b
  | .string, v => ∃ b, v = .string b ∧ b.size ≤ maxLen

def LeavesOk : List Leaf → List Value → Prop
  | [], [] => True
  | k :: ks, v :: vs => LeafOk k v ∧ LeavesOk ks vs
  | _, _ => False

theorem LeavesOk.append : ∀ {ks ks' : List Leaf} {vs vs' : List Value}, LeavesOk ks vs → LeavesOk ks' vs' → LeavesOk (ks ++ ks') (vs ++ vs')
  | [], _, [], _, _, h => h
  | _ :: _, _, _ :: _, _, h, h' => ⟨h.1, LeavesOk.append h.2 h'⟩

def leavesF (P : Program) (lv : TypeId → Option (List Leaf)) : Nat → List Field → Option (List Leaf)
  | _, [] => some []
  | off, f :: fs => match lv f.type with
    | some l => if f.offset = off ∧ P.cellsOf f.type = l.length then (leavesF P lv (off + l.length) fs).map (l ++ ·) else none
    | none => none

def leaves (P : Program) : Nat → TypeId → Option (List Leaf)
  | 0, _ => none
  | m + 1, t => match P.underlying t with
    | some (.int k) => some [.int k]
    | some .bool => some [.bool]
    | some .string => some [.string]
    | some (.struct fs) => match leavesF P (leaves P m) 0 fs.toList with
      | some ks => if P.cellsOf t = ks.length then some ks else none
      | none => none
    | some (.array n e) => match leaves P m e with
      | some l => if P.cellsOf e = l.length ∧ P.cellsOf t = n * l.length then some ((List.replicate n l).flatten) else none
      | none => none
    | _ => none

section
variable {H : Type} {enc : TypeId × Value → H} {P : Program} {w : World} {base : Nat} {sp : Nat → Bool} {held : Bool}

theorem leavesF_ok {lv : TypeId → Option (List Leaf)} (hlv : ∀ (t : TypeId) (ks : List Leaf) (n : Nat) (cs : List Value) (y : DataW H × List MemPlace), lv t = some ks → DataW.trod enc P w base sp held n t cs = some y → LeavesOk ks cs) {cs : List Value} :
    ∀ (fs : List Field) (off : Nat) (ks : List Leaf), leavesF P lv off fs = some ks → (∀ (i : Nat) (f : Field), fs[i]? = some f → ∃ n y, DataW.trod enc P w base sp held n f.type ((cs.drop f.offset).take (P.cellsOf f.type)) = some y) →
      LeavesOk ks ((cs.drop off).take ks.length)
  | [], off, ks, h, _ => by
    simp only [leavesF, Option.some.injEq] at h
    subst h
    simp [LeavesOk]
  | f :: fs, off, ks, h, ht => by
    unfold leavesF at h
    split at h
    · rename_i l hl
      split at h
      · rename_i hc
        simp only [Option.map_eq_some_iff] at h
        obtain ⟨ks', hk', rfl⟩ := h
        obtain ⟨n, y, hy⟩ := ht 0 f rfl
        rw [hc.1, hc.2] at hy
        have h1 := hlv _ _ _ _ _ hl hy
        have h2 := leavesF_ok hlv fs (off + l.length) ks' hk' (fun i g hg => ht (i + 1) g (by simpa using hg))
        have e : (cs.drop off).take (l ++ ks').length = (cs.drop off).take l.length ++ (cs.drop (off + l.length)).take ks'.length := by
          rw [List.length_append, List.take_add, List.drop_drop]
        rw [e]
        exact h1.append h2
      · cases h
    · cases h

theorem leavesA_ok {l : List Leaf} {cs : List Value} : ∀ n : Nat, (∀ i, i < n → LeavesOk l ((cs.drop (i * l.length)).take l.length)) → LeavesOk ((List.replicate n l).flatten) (cs.take (n * l.length))
  | 0, _ => by simp [LeavesOk]
  | n + 1, h => by
    have h1 := leavesA_ok n (fun i hi => h i (by omega))
    have h2 := h n (by omega)
    have e1 : (List.replicate (n + 1) l).flatten = (List.replicate n l).flatten ++ l := by
      rw [List.replicate_succ', List.flatten_append]
      simp
    have e2 : cs.take ((n + 1) * l.length) = cs.take (n * l.length) ++ (cs.drop (n * l.length)).take l.length := by
      rw [Nat.add_mul, Nat.one_mul, List.take_add]
    rw [e1, e2]
    exact h1.append h2

theorem leaves_ok : ∀ (m : Nat) (t : TypeId) (ks : List Leaf) (n : Nat) (cs : List Value) (y : DataW H × List MemPlace), leaves P m t = some ks → DataW.trod enc P w base sp held n t cs = some y → LeavesOk ks cs
  | 0, t, ks, n, cs, y, h, _ => by simp [leaves] at h
  | m + 1, t, ks, n, cs, y, h, hy => by
    unfold leaves at h
    split at h
    · rename_i k hu
      cases h
      obtain ⟨z, rfl, _, hz⟩ := DataW.trod_int hu hy
      exact ⟨⟨z, rfl, hz⟩, trivial⟩
    · rename_i hu
      cases h
      cases n with
      | zero => simp [DataW.trod] at hy
      | succ n =>
        unfold DataW.trod at hy
        rw [hu] at hy
        split at hy <;> simp_all [LeavesOk, LeafOk]
    · rename_i hu
      cases h
      obtain ⟨b, rfl, _, hz⟩ := DataW.trod_string hu hy
      exact ⟨⟨b, rfl, hz⟩, trivial⟩
    · rename_i fs hu
      split at h
      · rename_i ks' hks
        split at h
        · rename_i hc
          cases h
          obtain ⟨xs, n', rfl, _, hlen, hxl, hf⟩ := DataW.trod_struct hu hy
          have h1 := leavesF_ok (cs := cs) (leaves_ok m) fs.toList 0 _ hks (fun i f hi => by
            have hi' : fs[i]? = some f := by simpa using hi
            have := hf i f hi'
            have hil : i < xs.length := by rw [hxl]; exact (Array.getElem?_eq_some_iff.1 hi').1
            rw [List.getElem?_eq_getElem hil] at this
            exact ⟨_, _, this⟩)
          simpa [← hc, ← hlen] using h1
        · cases h
      · cases h
    · rename_i k e hu
      split at h
      · rename_i l hl
        split at h
        · rename_i hc
          cases h
          obtain ⟨xs, n', rfl, _, hlen, hxl, hf⟩ := DataW.trod_array hu hy
          have h1 := leavesA_ok (l := l) (cs := cs) k (fun i hi => by
            have := hf i hi
            have hil : i < xs.length := by rw [hxl]; exact hi
            rw [List.getElem?_eq_getElem hil, hc.1] at this
            exact leaves_ok m _ _ _ _ _ hl this)
          simpa [← hc.2, ← hlen] using h1
        · cases h
      · cases h
    · cases h

/-- A struct by value, opened. -/
theorem open_agg {α : Type} (K : Kind α) (good : α → Prop) {fs : Array Field} {ks : List Leaf} (m : Nat) (hs : P.underlying K.e = some (.struct fs)) (hl : leaves P m K.e = some ks) (hread : ∀ cs, LeavesOk ks cs → ∃ x, cs = K.elem x ∧ good x)
    {r : Reach} {b0 : Nat} {v : Value} {d : DataW H} {ps : List MemPlace} (hval : Value.okWide P w r b0 K.e v) (h : DataW.Trod enc P w base sp held K.e v d ps) : ∃ x, v = .agg (K.elem x).toArray ∧ good x := by
  obtain ⟨cs, rfl, _⟩ := okWide_struct hs hval
  obtain ⟨fuel, h⟩ := h
  have h' : DataW.trod enc P w base sp held fuel K.e cs.toList = some (d, ps) := h
  obtain ⟨x, hx, hg⟩ := hread _ (leaves_ok m _ _ _ _ _ hl h')
  exact ⟨x, by rw [← hx], hg⟩
end
theorem leaves_cons {k : Leaf} {ks : List Leaf} : ∀ {cs : List Value}, LeavesOk (k :: ks) cs → ∃ v vs, cs = v :: vs ∧ LeafOk k v ∧ LeavesOk ks vs
  | v :: vs, h => ⟨v, vs, rfl, h.1, h.2⟩
  | [], h => h.elim
theorem leaves_nil : ∀ {cs : List Value}, LeavesOk [] cs → cs = []
  | [], _ => rfl
  | _ :: _, h => h.elim
end WithText
end Go.Proofs.YthimamnblklkbaaDoor

/- Kinds of layer 11, by a program. -/
namespace Go.Proofs.YthimamnblklkbaaDoor
open Go Go.RowKit
set_option linter.unusedSimpArgs false
set_option linter.unusedVariables false

structure TTn where
  c0 : Int
  c1 : Int

def dTn : TTn := (⟨0, 0⟩ : TTn)
def kTn : Kind TTn := ⟨178, 2, fun x => [.int .u16 x.c0, .int .u64 x.c1], by decide, fun _ => rfl, fun _ => rfl⟩
def good_Tn (x : TTn) : Prop := (0 ≤ x.c0 ∧ x.c0 ≤ 65535) ∧ (0 ≤ x.c1 ∧ x.c1 ≤ 18446744073709551615)

structure TSt11 where
  c0 : Int
  c1 : Int
  c2 : Int
  c3 : Int
  c4 : Int
  c5 : Int
  c6 : Int
  c7 : ByteArray
  c8 : Bool

def dSt11 : TSt11 := (⟨0, 0, 0, 0, 0, 0, 0, .empty, false⟩ : TSt11)
def kSt11 : Kind TSt11 := ⟨110, 9, fun x => [.int .u8 x.c0, .int .i64 x.c1, .int .u64 x.c2, .int .u64 x.c3, .int .i64 x.c4, .int .u64 x.c5, .int .u64 x.c6, .string x.c7, .bool x.c8], by decide, fun _ => rfl, fun _ => rfl⟩
def good_St11 (x : TSt11) : Prop := (0 ≤ x.c0 ∧ x.c0 ≤ 255) ∧ (-9223372036854775808 ≤ x.c1 ∧ x.c1 ≤ 9223372036854775807) ∧ (0 ≤ x.c2 ∧ x.c2 ≤ 18446744073709551615) ∧ (0 ≤ x.c3 ∧ x.c3 ≤ 18446744073709551615) ∧ (-9223372036854775808 ≤ x.c4 ∧ x.c4 ≤ 9223372036854775807) ∧ (0 ≤ x.c5 ∧ x.c5 ≤ 18446744073709551615) ∧ (0 ≤ x.c6 ∧ x.c6 ≤ 18446744073709551615)

end Go.Proofs.YthimamnblklkbaaDoor

/- The least geometry that a row lists, as the walks ask it; a world that meets the listing. -/
namespace Go.Proofs.YthimamnblklkbaaDoor
open Go.ChangeShapes Go.WideShapes Go.ChangeAt Go.RowKit Go.Deep

def fieldsAt (P : Program) (t : TypeId) : Option (List (Nat × Nat)) := match P.underlying t with
  | some (.struct fs) => some (fs.toList.map fun f => (f.type, f.offset))
  | _ => none
theorem laid_least {W : World} (h : laidMetH Tryd.prog Rows.classWindowRow.laid W) : CellsAt (some ⟨1, 0, none⟩) [.int .i64 1, .int .i64 2, .int .i64 2] W := by
  rw [MakeChecks.laidMetH_plain _ _ _ (by kernel_rfl)] at h
  have hg : Tryd.prog.globalNamed "grommet/layout.least" = some 1 := by kernel_rfl
  have hty : (Tryd.prog.globals[1]?).map (·.type) = some 63 := by kernel_rfl
  have hf : fieldsAt Tryd.prog 63 = some [(3, 0), (3, 1), (3, 2)] := by kernel_rfl
  have hc1 : Tryd.prog.cellsOf 3 = 1 := by kernel_rfl
  obtain ⟨ps, ⟨g', t', cs, fuel, p, q, hg', ht', hvar, hd, _, _⟩, _⟩ := h
  obtain rfl := Option.some.inj (hg.symm.trans hg')
  obtain rfl := Option.some.inj (hty.symm.trans ht')
  unfold fieldsAt at hf
  split at hf
  · rename_i fs hu
    have hf := Option.some.inj hf
    obtain ⟨f0, r0, e0, h0, hf⟩ := List.map_eq_cons_iff.1 hf
    obtain ⟨f1, r1, e1, h1, hf⟩ := List.map_eq_cons_iff.1 hf
    obtain ⟨f2, r2, e2, h2, hf⟩ := List.map_eq_cons_iff.1 hf
    obtain rfl := List.map_eq_nil_iff.1 hf
    subst e1 e2
    simp only [Prod.mk.injEq] at h0 h1 h2
    cases fuel with
    | zero => simp [DataW.trod] at hd
    | succ fuel =>
      simp only [DataW.trod, hu] at hd
      split at hd
      · rename_i hl
        obtain ⟨xs, hm, hx⟩ := Option.map_eq_some_iff.1 hd
        rw [e0] at hm
        simp only [List.mapM_cons, List.mapM_nil, Option.bind_eq_bind, Option.bind_eq_some_iff, Option.pure_def, Option.some.injEq, h0.1, h0.2, h1.1, h1.2, h2.1, h2.2, hc1] at hm
        obtain ⟨b0, hb0, s0, ⟨b1, hb1, s1, ⟨b2, hb2, s2, rfl, rfl⟩, rfl⟩, rfl⟩ := hm
        obtain ⟨z0, c0, rfl, _⟩ := DataW.trod_int Tryd.underlying3 hb0
        obtain ⟨z1, c1, rfl, _⟩ := DataW.trod_int Tryd.underlying3 hb1
        obtain ⟨z2, c2, rfl, _⟩ := DataW.trod_int Tryd.underlying3 hb2
        have hz := congrArg Prod.fst hx
        simp only [List.map_cons, List.map_nil, Rows.laid_grommet_layout_least, DataW.agg.injEq, List.cons.injEq, DataW.lit.injEq, Lit.int.injEq, true_and, and_true] at hz
        obtain ⟨rfl, rfl, rfl⟩ := hz
        have k0 : cs[0]? = some (.int .i64 1) := by have := congrArg (·[0]?) c0; simpa [List.getElem?_take, List.getElem?_drop] using this
        have k1 : cs[1]? = some (.int .i64 2) := by have := congrArg (·[0]?) c1; simpa [List.getElem?_take, List.getElem?_drop] using this
        have k2 : cs[2]? = some (.int .i64 2) := by have := congrArg (·[0]?) c2; simpa [List.getElem?_take, List.getElem?_drop] using this
        intro j v hj
        have e : Addr.add ⟨1, 0, none⟩ j = ⟨1, j, none⟩ := by unfold Addr.add; split <;> simp_all
        rw [e, World.var?_cell hg hvar j]
        match j, hj with
        | 0, hj => rw [k0]; exact hj
        | 1, hj => rw [k1]; exact hj
        | 2, hj => rw [k2]; exact hj
        | j + 3, hj => simp at hj
      · cases hd
  · cases hf
theorem least_met (os : Os) (args : Array Value) : laidMetH Tryd.prog Rows.classWindowRow.laid ((World.doorLaid Tryd.prog 400 os).forCall (fun _ _ => 0) ⟨#[], args, []⟩).memory :=
  laidMetH_of_parts3 (fuel := 8) (laidMet_of_run' 8 (by kernel_rfl) (by kernel_rfl)) (by kernel_rfl) (by kernel_rfl)
end Go.Proofs.YthimamnblklkbaaDoor
