/- Texts, one behind the other: F6c, F7a, Sc, A7b, F7c, A7d, F06o, F7g, A7e, Qa, Pf, Pt, F6d, F6e, F6f. -/
import Derived.Test.YtmmclabkkigiaaaDoorQDN2
set_option linter.unusedVariables false
set_option linter.unusedSimpArgs false
set_option maxRecDepth 20000
namespace Go.Proofs.YtmmclabkkigiaaaDoor
open Go Go.RowKit
set_option linter.unusedSimpArgs false
set_option linter.unusedVariables false

theorem format_spec {gw gi gb : Int} (B : Nat) (w : World) : Spec Tryd.prog 15 #[(.agg #[(.int .i64 gw), (.int .i64 gi), (.int .i64 gb)])] B w [] (fun v H' => ∃ a' c', v = .slice a' (fmtW gw gi gb).length c' ∧ H' = [kU64.row a' c' (fmtW gw gi gb)]) := by
 refine spec_Q Tryd.func15 rfl fun hs => ?_
 refine W.sr fun K1 hK1 => ?_
 refine zN [(.int .i64 gw), (.int .i64 gi), (.int .i64 gb)] 34 hs fun b4 w2 hs3 => ?_
 refine zE 1 (hK1 _ _ ?_)
 refine W.seq fun K5 hK5 => ?_
 refine W.sr fun K6 hK6 => ?_
 refine ops_R (runs_loadAgg (ad := ⟨b4, 0, none⟩) (cs := [(.int .i64 gw), (.int .i64 gi), (.int .i64 gb)]) (by kernel_rfl) (cells_sub (hs3.heapAt 0 rfl) rfl)) ?_
 refine zC00 hs3 (rmay_spec (gw := gw) (gi := gi) (gb := gb) B _) fun w7 hs9 => ?_
 refine zE 1 (hK6 _ _ ?_)
 refine W.cond (!(decide (May gw gi gb))) (by kernel_rfl) (fun h10 => ?_) (fun h10 => ?_)
 ·
  have h10p : ¬ (May gw gi gb) := of_decide_eq_false (bnot_true h10)
  refine W.sr fun K11 hK11 => ?_
  refine zE 1 (hK11 _ _ ?_)
  refine W.ret (ret_seq ?_)
  have hs12 := St.tk0 hs9
  have hk := St.knil kU64 hs12
  have e_ : fmtW gw gi gb = [] := if_neg (by assumption)
  refine ret_of (.slice none 0 0) (by kernel_rfl) ⟨_, ⟨none, 0, by rw [e_]; rfl, by rw [e_]⟩, hk⟩
 ·
  have h10p : May gw gi gb := of_decide_eq_true (bnot_false h10)
  have hm : May gw gi gb := h10p
  have hm_ : (1 ≤ gw ∧ gw ≤ 4) ∧ (2 ≤ gi ∧ gi ≤ 64) ∧ (2 ≤ gb ∧ gb ≤ 512) := hm
  have hwd := words_may hm
  have hp6 := place6 hm
  have hp7 := place7 hm
  have hp8 := place8_in (n := 1) hm (by omega)
  refine W.skip ?_
  refine hK5 _ _ ?_
  refine W.sr fun K13 hK13 => ?_
  refine ops_R (runs_loadAgg (ad := ⟨b4, 0, none⟩) (cs := [(.int .i64 gw), (.int .i64 gi), (.int .i64 gb)]) (by kernel_rfl) (cells_sub (hs9.heapAt 0 rfl) rfl)) ?_
  refine zC00 hs9 (rwords_spec (gw := gw) (gi := gi) (gb := gb) B _) fun w14 hs16 => ?_
  refine ops_makeSlice kU64 0 (z := (wordsOf gw gi gb)) (bytes := 8) ((wordsOf gw gi gb).toNat) (by omega) hs16 (by kernel_rfl) (by omega) (by unfold maxLen; omega) (fun b17 w18 hs19 => ?_)
  refine zE 1 (hK13 _ _ ?_)
  refine W.sr fun K20 hK20 => ?_
  refine zR 1 ?_
  have hk21 : 0 < (wordsOf gw gi gb).toNat := by omega
  have hk22 : 0 < (List.replicate ((wordsOf gw gi gb).toNat) (0 : Int)).length := by simp only [List.length_set, List.length_replicate]; exact hk21
  refine ops_R (runs_index (a := (some ⟨b17, 0, none⟩)) (n := (wordsOf gw gi gb).toNat) (z := 0) (size := 1) 0 rfl hk21 (kU64.addr (St.kcells kU64 hs19 0 rfl) hk22) (by kernel_rfl)) ?_
  refine ops_storeK kU64 (j := 0) (vs := [(.int .u64 32762617960297063)]) 0 32762617960297063 hs19 hk22 (Nat.le_of_ble_eq_true rfl) (by simp) rfl rfl (by kernel_rfl) (fun w23 hs24 => ?_)
  refine zD (hK20 _ _ ?_)
  refine W.sr fun K26 hK26 => ?_
  refine zR 2 ?_
  refine zL ⟨b4, 0, none⟩ (.int .i64 gw) (hs24.cellAt 1 rfl rfl) ?_
  refine zI gw (wrap_u64 (by omega) (by omega)) ?_
  have hk27 : 1 < (wordsOf gw gi gb).toNat := by omega
  have hk28 : 1 < ((List.replicate ((wordsOf gw gi gb).toNat) (0 : Int)).set 0 32762617960297063).length := by simp only [List.length_set, List.length_replicate]; exact hk27
  refine ops_R (runs_index (a := (some ⟨b17, 0, none⟩)) (n := (wordsOf gw gi gb).toNat) (z := 1) (size := 1) 1 rfl hk27 (kU64.addr (St.kcells kU64 hs24 0 rfl) hk28) (by kernel_rfl)) ?_
  refine ops_storeK kU64 (j := 0) (vs := [(.int .u64 gw)]) 0 gw hs24 hk28 (Nat.le_of_ble_eq_true rfl) (by simp) rfl rfl (by kernel_rfl) (fun w29 hs30 => ?_)
  refine zD (hK26 _ _ ?_)
  refine W.sr fun K32 hK32 => ?_
  refine zR 2 ?_
  refine zL ⟨b4, 1, none⟩ (.int .i64 gi) (hs30.cellAt 1 rfl rfl) ?_
  refine zI gi (wrap_u64 (by omega) (by omega)) ?_
  have hk33 : 2 < (wordsOf gw gi gb).toNat := by omega
  have hk34 : 2 < (((List.replicate ((wordsOf gw gi gb).toNat) (0 : Int)).set 0 32762617960297063).set 1 gw).length := by simp only [List.length_set, List.length_replicate]; exact hk33
  refine ops_R (runs_index (a := (some ⟨b17, 0, none⟩)) (n := (wordsOf gw gi gb).toNat) (z := 2) (size := 1) 2 rfl hk33 (kU64.addr (St.kcells kU64 hs30 0 rfl) hk34) (by kernel_rfl)) ?_
  refine ops_storeK kU64 (j := 0) (vs := [(.int .u64 gi)]) 0 gi hs30 hk34 (Nat.le_of_ble_eq_true rfl) (by simp) rfl rfl (by kernel_rfl) (fun w35 hs36 => ?_)
  refine zD (hK32 _ _ ?_)
  refine W.sr fun K38 hK38 => ?_
  refine zR 2 ?_
  refine zL ⟨b4, 2, none⟩ (.int .i64 gb) (hs36.cellAt 1 rfl rfl) ?_
  refine zI gb (wrap_u64 (by omega) (by omega)) ?_
  have hk39 : 3 < (wordsOf gw gi gb).toNat := by omega
  have hk40 : 3 < ((((List.replicate ((wordsOf gw gi gb).toNat) (0 : Int)).set 0 32762617960297063).set 1 gw).set 2 gi).length := by simp only [List.length_set, List.length_replicate]; exact hk39
  refine ops_R (runs_index (a := (some ⟨b17, 0, none⟩)) (n := (wordsOf gw gi gb).toNat) (z := 3) (size := 1) 3 rfl hk39 (kU64.addr (St.kcells kU64 hs36 0 rfl) hk40) (by kernel_rfl)) ?_
  refine ops_storeK kU64 (j := 0) (vs := [(.int .u64 gb)]) 0 gb hs36 hk40 (Nat.le_of_ble_eq_true rfl) (by simp) rfl rfl (by kernel_rfl) (fun w41 hs42 => ?_)
  refine zD (hK38 _ _ ?_)
  refine W.sr fun K44 hK44 => ?_
  refine zR 1 ?_
  refine ops_R (runs_loadAgg (ad := ⟨b4, 0, none⟩) (cs := [(.int .i64 gw), (.int .i64 gi), (.int .i64 gb)]) (by kernel_rfl) (cells_sub (hs42.heapAt 1 rfl) rfl)) ?_
  refine zC00 hs42 (rmapat_spec (gw := gw) (gi := gi) (gb := gb) B _) fun w45 hs47 => ?_
  have hk48 : (placeOf 6 gw gi gb 0).toNat < (wordsOf gw gi gb).toNat := by omega
  have hk49 : (placeOf 6 gw gi gb 0).toNat < (((((List.replicate ((wordsOf gw gi gb).toNat) (0 : Int)).set 0 32762617960297063).set 1 gw).set 2 gi).set 3 gb).length := by simp only [List.length_set, List.length_replicate]; exact hk48
  refine ops_R (runs_index (a := (some ⟨b17, 0, none⟩)) (n := (wordsOf gw gi gb).toNat) (z := (placeOf 6 gw gi gb 0)) (size := 1) ((placeOf 6 gw gi gb 0).toNat) (by omega) hk48 (kU64.addr (St.kcells kU64 hs47 0 rfl) hk49) (by kernel_rfl)) ?_
  refine ops_storeK kU64 (j := 0) (vs := [(.int .u64 3)]) 0 3 hs47 hk49 (Nat.le_of_ble_eq_true rfl) (by simp) rfl rfl (by kernel_rfl) (fun w50 hs51 => ?_)
  refine zD (hK44 _ _ ?_)
  refine W.sr fun K53 hK53 => ?_
  refine zR 1 ?_
  refine ops_R (runs_loadAgg (ad := ⟨b4, 0, none⟩) (cs := [(.int .i64 gw), (.int .i64 gi), (.int .i64 gb)]) (by kernel_rfl) (cells_sub (hs51.heapAt 1 rfl) rfl)) ?_
  refine zC00 hs51 (rbmapat_spec (gw := gw) (gi := gi) (gb := gb) B _) fun w54 hs56 => ?_
  have hk57 : (placeOf 7 gw gi gb 0).toNat < (wordsOf gw gi gb).toNat := by omega
  have hk58 : (placeOf 7 gw gi gb 0).toNat < ((((((List.replicate ((wordsOf gw gi gb).toNat) (0 : Int)).set 0 32762617960297063).set 1 gw).set 2 gi).set 3 gb).set ((placeOf 6 gw gi gb 0).toNat) 3).length := by simp only [List.length_set, List.length_replicate]; exact hk57
  refine ops_R (runs_index (a := (some ⟨b17, 0, none⟩)) (n := (wordsOf gw gi gb).toNat) (z := (placeOf 7 gw gi gb 0)) (size := 1) ((placeOf 7 gw gi gb 0).toNat) (by omega) hk57 (kU64.addr (St.kcells kU64 hs56 0 rfl) hk58) (by kernel_rfl)) ?_
  refine ops_storeK kU64 (j := 0) (vs := [(.int .u64 1)]) 0 1 hs56 hk58 (Nat.le_of_ble_eq_true rfl) (by simp) rfl rfl (by kernel_rfl) (fun w59 hs60 => ?_)
  refine zD (hK53 _ _ ?_)
  refine W.sr fun K62 hK62 => ?_
  refine zR 1 ?_
  refine ops_R (runs_loadAgg (ad := ⟨b4, 0, none⟩) (cs := [(.int .i64 gw), (.int .i64 gi), (.int .i64 gb)]) (by kernel_rfl) (cells_sub (hs60.heapAt 1 rfl) rfl)) ?_
  refine zC00 hs60 (rinodeat_spec (gw := gw) (gi := gi) (gb := gb) (n_ := 1) B _) fun w63 hs65 => ?_
  have hk66 : (placeOf 8 gw gi gb 1).toNat < (wordsOf gw gi gb).toNat := by omega
  have hk67 : (placeOf 8 gw gi gb 1).toNat < (((((((List.replicate ((wordsOf gw gi gb).toNat) (0 : Int)).set 0 32762617960297063).set 1 gw).set 2 gi).set 3 gb).set ((placeOf 6 gw gi gb 0).toNat) 3).set ((placeOf 7 gw gi gb 0).toNat) 1).length := by simp only [List.length_set, List.length_replicate]; exact hk66
  refine ops_R (runs_index (a := (some ⟨b17, 0, none⟩)) (n := (wordsOf gw gi gb).toNat) (z := (placeOf 8 gw gi gb 1)) (size := 1) ((placeOf 8 gw gi gb 1).toNat) (by omega) hk66 (kU64.addr (St.kcells kU64 hs65 0 rfl) hk67) (by kernel_rfl)) ?_
  refine ops_storeK kU64 (j := 0) (vs := [(.int .u64 2)]) 0 2 hs65 hk67 (Nat.le_of_ble_eq_true rfl) (by simp) rfl rfl (by kernel_rfl) (fun w68 hs69 => ?_)
  refine zD (hK62 _ _ ?_)
  refine W.sr fun K71 hK71 => ?_
  refine zR 1 ?_
  refine ops_R (runs_loadAgg (ad := ⟨b4, 0, none⟩) (cs := [(.int .i64 gw), (.int .i64 gi), (.int .i64 gb)]) (by kernel_rfl) (cells_sub (hs69.heapAt 1 rfl) rfl)) ?_
  refine zC00 hs69 (rinodeat_spec (gw := gw) (gi := gi) (gb := gb) (n_ := 1) B _) fun w72 hs74 => ?_
  refine zI ((placeOf 8 gw gi gb 1) + 1) (wrap_i64 (by omega) (by omega)) ?_
  have hk75 : ((placeOf 8 gw gi gb 1) + 1).toNat < (wordsOf gw gi gb).toNat := by omega
  have hk76 : ((placeOf 8 gw gi gb 1) + 1).toNat < ((((((((List.replicate ((wordsOf gw gi gb).toNat) (0 : Int)).set 0 32762617960297063).set 1 gw).set 2 gi).set 3 gb).set ((placeOf 6 gw gi gb 0).toNat) 3).set ((placeOf 7 gw gi gb 0).toNat) 1).set ((placeOf 8 gw gi gb 1).toNat) 2).length := by simp only [List.length_set, List.length_replicate]; exact hk75
  refine ops_R (runs_index (a := (some ⟨b17, 0, none⟩)) (n := (wordsOf gw gi gb).toNat) (z := ((placeOf 8 gw gi gb 1) + 1)) (size := 1) (((placeOf 8 gw gi gb 1) + 1).toNat) (by omega) hk75 (kU64.addr (St.kcells kU64 hs74 0 rfl) hk76) (by kernel_rfl)) ?_
  refine ops_storeK kU64 (j := 0) (vs := [(.int .u64 1)]) 0 1 hs74 hk76 (Nat.le_of_ble_eq_true rfl) (by simp) rfl rfl (by kernel_rfl) (fun w77 hs78 => ?_)
  refine zD (hK71 _ _ ?_)
  refine W.sr fun K80 hK80 => ?_
  refine zE 2 (hK80 _ _ ?_)
  refine W.ret ?_
  have hs81 := St.tk1 hs78
  have e_ : (((((((((List.replicate ((wordsOf gw gi gb).toNat) (0 : Int)).set 0 32762617960297063).set 1 gw).set 2 gi).set 3 gb).set ((placeOf 6 gw gi gb 0).toNat) 3).set ((placeOf 7 gw gi gb 0).toNat) 1).set ((placeOf 8 gw gi gb 1).toNat) 2).set (((placeOf 8 gw gi gb 1) + 1).toNat) 1) = fmtW gw gi gb := (if_pos hm).symm
  have hs_ := hs81
  rw [e_] at hs_
  refine ret_of (.slice (some ⟨b17, 0, none⟩) ((wordsOf gw gi gb).toNat) ((wordsOf gw gi gb).toNat)) (by kernel_rfl) ⟨_, ⟨(some ⟨b17, 0, none⟩), (wordsOf gw gi gb).toNat, by rw [fmtW_len], rfl⟩, hs_⟩

theorem small_spec {x_ y_ : Int} (B : Nat) (w : World) (hx : 0 ≤ x_ ∧ x_ ≤ 255) (hy : 0 ≤ y_ ∧ y_ ≤ 255) : Spec Tryd.prog 16 #[(.int .u8 x_), (.int .u8 y_)] B w [] (fun v H' => v = .agg #[.int .i64 1, .int .i64 (2 + x_ % 20), .int .i64 (2 + y_ % 60)] ∧ H' = []) := by
 refine spec_Q Tryd.func16 rfl fun hs => ?_
 refine W.sr fun K1 hK1 => ?_
 refine zN [(.int .i64 0), (.int .i64 0), (.int .i64 0)] 23 hs fun b4 w2 hs3 => ?_
 refine zD (hK1 _ _ ?_)
 refine W.sr fun K5 hK5 => ?_
 refine zR 1 ?_
 refine zI x_ (wrap_i64 (by omega) (by omega)) ?_
 obtain ⟨r6, hr7, hl8, he9⟩ := rem_nat (x := x_) (y := 20) (by omega) (by omega)
 refine ops_R (v := .int .i64 (r6 : Int)) (runs_rem (k := .i64) (a := x_) (b := 20) (by kernel_rfl) (by omega) hr7) ?_
 refine zI (2 + (r6 : Int)) (wrap_i64 (by omega) (by omega)) ?_
 refine zR 1 ?_
 refine zI y_ (wrap_i64 (by omega) (by omega)) ?_
 obtain ⟨r10, hr11, hl12, he13⟩ := rem_nat (x := y_) (y := 60) (by omega) (by omega)
 refine ops_R (v := .int .i64 (r10 : Int)) (runs_rem (k := .i64) (a := y_) (b := 60) (by kernel_rfl) (by omega) hr11) ?_
 refine zI (2 + (r10 : Int)) (wrap_i64 (by omega) (by omega)) ?_
 refine zR 1 ?_
 refine ops_store (off := 0) (cs := [(.int .i64 0), (.int .i64 0), (.int .i64 0)]) (vs := [(.int .i64 1), (.int .i64 (2 + (r6 : Int))), (.int .i64 (2 + (r10 : Int)))]) hs3 (by kernel_rfl) (by simp) rfl (fun w14 hs15 => ?_)
 have hs16 : St B w [] w14 [blk b4 (.cells [(.int .i64 1), (.int .i64 (2 + (r6 : Int))), (.int .i64 (2 + (r10 : Int)))].toArray 23 (0, 0))] := hs15
 refine zD (hK5 _ _ ?_)
 refine W.ret ?_
 have hs17 := St.tk0 hs16
 refine ret_of (.agg #[(.int .i64 1), (.int .i64 (2 + (r6 : Int))), (.int .i64 (2 + (r10 : Int)))]) (results_cell (ad := ⟨b4, 0, none⟩) (cs := [(.int .i64 1), (.int .i64 (2 + (r6 : Int))), (.int .i64 (2 + (r10 : Int)))]) rfl (by kernel_rfl) (by kernel_rfl) (cells_sub (hs16.heapAt 0 rfl) rfl)) ⟨_, ⟨by simp only [*], rfl⟩, hs17⟩

end Go.Proofs.YtmmclabkkigiaaaDoor

set_option maxRecDepth 20000
namespace Go.Proofs.YtmmclabkkigiaaaDoor
open Go Go.RowKit
set_option linter.unusedSimpArgs false
set_option linter.unusedVariables false

theorem blockat_spec {gw gi gb n_ : Int} (B : Nat) (w : World) : Spec Tryd.prog 26 #[(.agg #[(.int .i64 gw), (.int .i64 gi), (.int .i64 gb)]), (.int .i64 n_)] B w [] (fun v H' => v = .int .i64 (placeOf 9 gw gi gb n_) ∧ H' = []) := by
 refine spec_Q Tryd.func26 rfl fun hs => ?_
 refine W.sr fun K1 hK1 => ?_
 refine zN [(.int .i64 gw), (.int .i64 gi), (.int .i64 gb)] 23 hs fun b4 w2 hs3 => ?_
 refine zE 1 (hK1 _ _ ?_)
 refine W.sr fun K5 hK5 => ?_
 refine ops_R (runs_loadAgg (ad := ⟨b4, 0, none⟩) (cs := [(.int .i64 gw), (.int .i64 gi), (.int .i64 gb)]) (by kernel_rfl) (cells_sub (hs3.heapAt 0 rfl) rfl)) ?_
 refine zR 1 ?_
 refine zC00 hs3 (place9_spec (gw := gw) (gi := gi) (gb := gb) (n_ := n_) B _) fun w6 hs8 => ?_
 refine zE 1 (hK5 _ _ ?_)
 refine W.ret ?_
 have hs9 := St.tk0 hs8
 refine ret_of (.int .i64 (placeOf 9 gw gi gb n_)) (by kernel_rfl) ⟨_, ⟨rfl, rfl⟩, hs9⟩

theorem lmap6_spec {gw gi gb : Int} (B : Nat) (w : World) : Spec Tryd.prog 59 #[(.agg #[(.int .i64 gw), (.int .i64 gi), (.int .i64 gb)])] B w [] (fun v H' => v = .int .i64 (placeOf 6 gw gi gb 0) ∧ H' = []) := by
 refine spec_Q Tryd.func59 rfl fun hs => ?_
 refine W.sr fun K1 hK1 => ?_
 refine zN [(.int .i64 gw), (.int .i64 gi), (.int .i64 gb)] 23 hs fun b4 w2 hs3 => ?_
 refine zE 1 (hK1 _ _ ?_)
 refine W.sr fun K5 hK5 => ?_
 refine ops_R (runs_loadAgg (ad := ⟨b4, 0, none⟩) (cs := [(.int .i64 gw), (.int .i64 gi), (.int .i64 gb)]) (by kernel_rfl) (cells_sub (hs3.heapAt 0 rfl) rfl)) ?_
 refine zC00 hs3 (place6_spec (gw := gw) (gi := gi) (gb := gb) (n_ := 0) B _) fun w6 hs8 => ?_
 refine zE 1 (hK5 _ _ ?_)
 refine W.ret ?_
 have hs9 := St.tk0 hs8
 refine ret_of (.int .i64 (placeOf 6 gw gi gb 0)) (by kernel_rfl) ⟨_, ⟨rfl, rfl⟩, hs9⟩

theorem lmap7_spec {gw gi gb : Int} (B : Nat) (w : World) : Spec Tryd.prog 60 #[(.agg #[(.int .i64 gw), (.int .i64 gi), (.int .i64 gb)])] B w [] (fun v H' => v = .int .i64 (placeOf 7 gw gi gb 0) ∧ H' = []) := by
 refine spec_Q Tryd.func60 rfl fun hs => ?_
 refine W.sr fun K1 hK1 => ?_
 refine zN [(.int .i64 gw), (.int .i64 gi), (.int .i64 gb)] 23 hs fun b4 w2 hs3 => ?_
 refine zE 1 (hK1 _ _ ?_)
 refine W.sr fun K5 hK5 => ?_
 refine ops_R (runs_loadAgg (ad := ⟨b4, 0, none⟩) (cs := [(.int .i64 gw), (.int .i64 gi), (.int .i64 gb)]) (by kernel_rfl) (cells_sub (hs3.heapAt 0 rfl) rfl)) ?_
 refine zC00 hs3 (place7_spec (gw := gw) (gi := gi) (gb := gb) (n_ := 0) B _) fun w6 hs8 => ?_
 refine zE 1 (hK5 _ _ ?_)
 refine W.ret ?_
 have hs9 := St.tk0 hs8
 refine ret_of (.int .i64 (placeOf 7 gw gi gb 0)) (by kernel_rfl) ⟨_, ⟨rfl, rfl⟩, hs9⟩


end Go.Proofs.YtmmclabkkigiaaaDoor

namespace Go.Proofs.YtmmclabkkigiaaaDoor
open Go Go.RowKit

theorem St.oldCellsB {B : Nat} {w0 w : World} {l0 : List Nat} {H : List Asn} {ad : Addr} {cs : List Value} (hs : St B w0 l0 w H) (hG : ad.block < B) (h : CellsAt (some ad) cs w0) : CellsAt (some ad) cs w := by
  obtain ⟨hB, hlow, l, _, hu⟩ := hs
  intro j v hj
  have hc := h j v hj
  have hb : (ad.add j).block = ad.block := by unfold Addr.add; split <;> rfl
  have he : w.heap[(ad.add j).block]? = w0.heap[(ad.add j).block]? := by
    rw [hb]
    exact hu.block _ (Nat.lt_of_lt_of_le hG hB) fun hm => absurd (hlow _ hm).1 (by omega)
  rw [World.cell?_of_block (w := w0) he]
  exact hc
theorem lt_of_cells {w : World} {ad : Addr} {v : Value} {cs : List Value} (h : CellsAt (some ad) cs w) (h0 : cs[0]? = some v) : ad.block < w.heap.size := by
  have hc := h 0 v h0
  have hb : (ad.add 0).block = ad.block := by unfold Addr.add; split <;> rfl
  rw [← hb]
  exact World.block_lt_of_cell? w _ hc

section
variable {α : Type} (Kd : Kind α)
end

section
variable {M : Bool} {P : Program} {ops : Array Oper} {i : Nat} {s : Fs} {w w' : World} {K : Fs → World → Prop}

theorem ops_storeArr {α : Type} (Kd : Kind α) {B : Nat} {w0 : World} {l0 : List Nat} {R : List Asn} {b k j : Nat} {t : TypeId} {l : List α} {vs : List Value} (d y : α) (hs : St B w0 l0 w (blk b (.cells (Kd.cells l).toArray t (0, 0)) :: R)) (hkl : k < l.length) (hj : j + vs.length ≤ Kd.size) (hv : vs.all Value.oneCell' = true)
    (hy : Kd.elem y = writeAt (Kd.elem (l.getD k d)) j vs) (hq : storeQ P ops i s = some ((adr (some ⟨b, 0, none⟩) (k * Kd.size)).add j, vs))
    (hk : ∀ w', St B w0 l0 w' (blk b (.cells (Kd.cells (l.set k y)).toArray t (0, 0)) :: R) → OpsAt M P ops (i + 1) (putS s (dstOf ops i) undef) w' K) : OpsAt M P ops i s w K := by
  rw [adr_add] at hq
  have hadd : adr (some ⟨b, 0, none⟩) (k * Kd.size + j) = ⟨b, k * Kd.size + j, none⟩ := by unfold adr Addr.add; split <;> simp_all
  rw [hadd] at hq
  refine ops_store hs hq ?_ hv fun w' hs' => hk w' ?_
  · rw [Kd.length]
    have : (k + 1) * Kd.size ≤ l.length * Kd.size := Nat.mul_le_mul_right _ hkl
    rw [Nat.add_mul] at this
    omega
  · rw [Kd.set d j y hkl hj hy] at hs'
    exact hs'
end
end Go.Proofs.YtmmclabkkigiaaaDoor

set_option linter.unusedVariables false
set_option maxRecDepth 20000
namespace Go.Proofs.YtmmclabkkigiaaaDoor
open Go Go.RowKit
set_option linter.unusedSimpArgs false
set_option linter.unusedVariables false

def pfree_M (img : List Int) (l : List (Int × Int)) (at_ : Int) (many : Int) (pm : Int) : Option (Int) :=
 (mcount_M img l at_ many).bind fun r7 =>
need (-9223372036854775808 ≤ (pm - r7) ∧ (pm - r7) ≤ 9223372036854775807) <|
some (pm - r7)

theorem pfree_walk {img : List Int} {l : List (Int × Int)} {at_ : Int} {many : Int} {pm : Int} {mb vb : Nat} {r : Int} (B : Nat) (w : World) (hmb : w.heap[mb]? = some (.cells [(.pointer (some ⟨vb, 0, none⟩)), (.int .i64 at_), (.int .i64 many)].toArray 136 (0, 0))) (hv : ViewAt (ptr vb) img l w) (hm : pfree_M img l at_ many pm = some r) : Spec Tryd.prog 61 #[(.agg #[(.pointer (some ⟨mb, 0, none⟩)), (.int .i64 pm)])] B w [] (fun v H' => v = .int .i64 r ∧ H' = []) := by
 refine spec_Q Tryd.func61 rfl fun hs => ?_
 unfold pfree_M at hm
 refine W.sr fun K1 hK1 => ?_
 refine zN [(.pointer (some ⟨mb, 0, none⟩)), (.int .i64 pm)] 112 hs fun b4 w2 hs3 => ?_
 refine zE 1 (hK1 _ _ ?_)
 refine W.seq fun K5 hK5 => ?_
 have hs6 := hs3.drew
 refine W.regionD [(0, 0), (1, 1), (0, 0), (4, 4), (8, 8), (18, 18), (63, 32)] (fun w_ => St B w [] w_ [blk b4 (.cells [(.pointer (some ⟨mb, 0, none⟩)), (.int .i64 pm)].toArray 112 (0, 0))]) (by kernel_rfl) hs6 ?_
 refine any_val (v := (.pointer (some ⟨b4, 1, none⟩))) (v' := (.pointer (some ⟨b4, 1, none⟩))) 0 (by kernel_rfl) (fun _ => by kernel_rfl) rfl hs6 ?_
 refine any_R 1 (by kernel_rfl) (fun _ hS_ => runs_load (ad := ⟨b4, 1, none⟩) (v := (.int .i64 pm)) (by kernel_rfl) (hS_.cellAt 0 rfl rfl)) hs6 ?_
 refine any_val (v := (.pointer (some ⟨b4, 0, none⟩))) (v' := (.pointer (some ⟨b4, 0, none⟩))) 2 (by kernel_rfl) (fun _ => by kernel_rfl) rfl hs6 ?_
 refine any_R 3 (by kernel_rfl) (fun _ hS_ => runs_load (ad := ⟨b4, 0, none⟩) (v := (.pointer (some ⟨mb, 0, none⟩))) (by kernel_rfl) (hS_.cellAt 0 rfl rfl)) hs6 ?_
 refine any_step 4 (by kernel_rfl) (by kernel_rfl) ?_
 obtain ⟨r7, h8, hm⟩ := bind_some hm
 refine zC00 hs6 (mcount_walk (hmb := (hs6.old hmb)) (hv := (viewAt_old hs6 hv)) (hm := h8) B _) fun w9 hs11 => ?_
 refine ops_done (by kernel_rfl) ⟨hs11, ?_⟩
 obtain ⟨h12, hm⟩ := need_some hm
 refine any_val (v := .int .i64 (IntKind.i64.wrap (pm - r7))) (v' := .int .i64 (pm - r7)) 5 (by kernel_rfl) (fun _ => by kernel_rfl) (congrArg (Value.int .i64) (wrap_i64 h12.1 h12.2)) hs11 ?_
 refine any_val (v := (.int .i64 (pm - r7))) (v' := (.int .i64 (pm - r7))) 6 (by kernel_rfl) (fun _ => by kernel_rfl) rfl hs11 ?_
 refine any_done (by kernel_rfl) ?_
 refine hK5 _ _ ?_
 refine W.ret ?_
 obtain rfl := some_inj hm
 have hs13 := St.tk0 hs11
 refine ret_of (.int .i64 (pm - r7)) (by kernel_rfl) ⟨_, ⟨rfl, rfl⟩, hs13⟩

def pgive_J1 (img : List Int) (l : List (Int × Int)) (at_ : Int) (many : Int) (n_ : Int) (p6 : Bool) : Option (Int × List (Int × Int)) :=
 if p6 = true then (some (1, l)) else ((mget_M img l at_ many n_).bind fun r14 =>
if r14 = true then ((mset_M img l at_ many n_ false).bind fun r21 =>
some (r21.1, r21.2)) else (some (3, l)))

def pgive_M (img : List Int) (l : List (Int × Int)) (at_ : Int) (many : Int) (pm : Int) (n_ : Int) : Option (Int × List (Int × Int)) :=
 if n_ < 1 then (pgive_J1 img l at_ many n_ (decide (n_ < 1))) else (pgive_J1 img l at_ many n_ (decide (n_ ≥ pm)))

theorem pgive_walk {img : List Int} {l : List (Int × Int)} {at_ : Int} {many : Int} {pm : Int} {n_ : Int} {mb vb : Nat} {r : Int × List (Int × Int)} (B : Nat) (w : World) (hm : pgive_M img l at_ many pm n_ = some r) : Spec Tryd.prog 95 #[(.agg #[(.pointer (some ⟨mb, 0, none⟩)), (.int .i64 pm)]), (.int .i64 n_)] B w [blk mb (.cells [(.pointer (some ⟨vb, 0, none⟩)), (.int .i64 at_), (.int .i64 many)].toArray 136 (0, 0)), viewA (ptr vb) img l] (fun v H' => v = .int .i64 r.1 ∧ H' = [blk mb (.cells [(.pointer (some ⟨vb, 0, none⟩)), (.int .i64 at_), (.int .i64 many)].toArray 136 (0, 0)), viewA (ptr vb) img r.2]) := by
 refine spec_W Tryd.func95 rfl fun l0 hs => ?_
 unfold pgive_M at hm
 refine W.sr fun K1 hK1 => ?_
 refine zN [(.pointer (some ⟨mb, 0, none⟩)), (.int .i64 pm)] 112 hs fun b4 w2 hs3 => ?_
 refine zE 1 (hK1 _ _ ?_)
 refine W.seq fun K5 hK5 => ?_
 refine W.block ?_
 refine W.seq_join (fun s_ w_ => ∃ (p6 : Bool), (∃ us, s_ = slots 22 [(1, (.int .i64 n_)), (2, (.pointer (some ⟨b4, 0, none⟩))), (5, (.bool p6))] us) ∧ St B w l0 w_ [viewA (ptr vb) img l, blk mb (.cells [(.pointer (some ⟨vb, 0, none⟩)), (.int .i64 at_), (.int .i64 many)].toArray 136 (0, 0)), blk b4 (.cells [(.pointer (some ⟨mb, 0, none⟩)), (.int .i64 pm)].toArray 112 (0, 0))] ∧ pgive_J1 img l at_ many n_ p6 = some r) ?_ ?_
 ·
  rintro _ w7 ⟨p6, ⟨us, rfl⟩, hs8, hm⟩
  unfold pgive_J1 at hm
  refine W.cond p6 (by kernel_rfl) (fun h9 => ?_) (fun h9 => ?_)
  ·
   have h9p : p6 = true := h9
   replace hm := ite_yes hm h9p
   refine W.sr fun K10 hK10 => ?_
   refine zE 1 (hK10 _ _ ?_)
   refine W.ret (ret_block (ret_seq ?_))
   obtain rfl := some_inj hm
   have hs11 := St.f1 hs8
   have hs12 := St.tk2 hs11
   refine ret_of (.int .i64 1) (by kernel_rfl) ⟨_, ⟨rfl, rfl⟩, hs12⟩
  ·
   have h9p : ¬ (p6 = true) := ne_true_of_eq_false h9
   replace hm := ite_no hm h9p
   refine W.sr fun K13 hK13 => ?_
   refine zR 1 ?_
   refine zL ⟨b4, 0, none⟩ (.pointer (some ⟨mb, 0, none⟩)) (hs8.cellAt 2 rfl rfl) ?_
   refine zR 1 ?_
   obtain ⟨r14, h15, hm⟩ := bind_some hm
   refine zC00 hs8 (mget_walk (hmb := (hs8.heapAt 1 rfl)) (hv := (hs8.entAt 0 rfl viewA_at)) (hm := h15) B _) fun w16 hs18 => ?_
   refine zE 2 (hK13 _ _ ?_)
   refine W.cond (!r14) (by kernel_rfl) (fun h19 => ?_) (fun h19 => ?_)
   rotate_left
   ·
    have h19p : r14 = true := (bnot_false h19)
    replace hm := ite_yes hm h19p
    refine W.skip ?_
    refine normal_block ?_
    refine hK5 _ _ ?_
    refine W.sr fun K20 hK20 => ?_
    refine zR 1 ?_
    refine zL ⟨b4, 0, none⟩ (.pointer (some ⟨mb, 0, none⟩)) (hs18.cellAt 2 rfl rfl) ?_
    refine zR 1 ?_
    obtain ⟨r21, h22, hm⟩ := bind_some hm
    have hs23 := St.f1 hs18
    refine zC22 hs23 (mset_walk (hm := h22) B _) fun w24 hs26 => ?_
    refine zE 1 (hK20 _ _ ?_)
    refine W.ret ?_
    obtain rfl := some_inj hm
    have hs27 := St.f1 hs26
    have hs28 := St.f1 hs27
    have hs29 := St.tk2 hs28
    refine ret_of (.int .i64 r21.1) (by kernel_rfl) ⟨_, ⟨rfl, rfl⟩, hs29⟩
   ·
    have h19p : ¬ (r14 = true) := ne_true_of_eq_false (bnot_true h19)
    replace hm := ite_no hm h19p
    refine W.sr fun K30 hK30 => ?_
    refine zE 1 (hK30 _ _ ?_)
    refine W.ret (ret_block (ret_seq ?_))
    obtain rfl := some_inj hm
    have hs31 := St.f1 hs18
    have hs32 := St.tk2 hs31
    refine ret_of (.int .i64 3) (by kernel_rfl) ⟨_, ⟨rfl, rfl⟩, hs32⟩
 ·
  refine W.sr fun K33 hK33 => ?_
  refine zE 3 (hK33 _ _ ?_)
  refine W.cond (decide (n_ < 1)) (by kernel_rfl) (fun h34 => ?_) (fun h34 => ?_)
  ·
   obtain ⟨h34p, hm⟩ := iY hm h34
   refine W.skip ?_
   have hs35 := St.f1 hs3
   have hs36 := St.f2 hs35
   exact ⟨(decide (n_ < 1)), slots_intro _ (by kernel_rfl), hs36, hm⟩
  ·
   obtain ⟨h34p, hm⟩ := iN hm h34
   refine W.region ?_
   refine zR 2 ?_
   refine zL ⟨b4, 1, none⟩ (.int .i64 pm) (hs3.cellAt 0 rfl rfl) ?_
   refine zE 2 ?_
   have hs37 := St.f1 hs3
   have hs38 := St.f2 hs37
   exact ⟨(decide (n_ ≥ pm)), slots_intro _ (by kernel_rfl), hs38, hm⟩

def aclear_B0 (img : List Int) (ns : List Int) (k6 : ((List (Int × Int)) × Int) → Option (Int × List (Int × Int))) (l4 : List (Int × Int)) (p5 : Int) : Option (Int × List (Int × Int)) :=
 if p5 < (ns.length : Int) then (need (0 ≤ p5 ∧ p5 < (ns.length : Int)) <|
(some (vput img l4 (ns.getD p5.toNat 0) 0)).bind fun r21 =>
if r21.1 = 0 then (need (-9223372036854775808 ≤ (p5 + 1) ∧ (p5 + 1) ≤ 9223372036854775807) <|
k6 (r21.2, (p5 + 1))) else (some (r21.1, r21.2))) else (some (0, l4))

def aclear_M (img : List Int) (l : List (Int × Int)) (ns : List Int) : Option (Int × List (Int × Int)) :=
 iter (fun k_ s_ => aclear_B0 img ns k_ s_.1 s_.2) FUEL (l, 0)

theorem aclear_walk {img : List Int} {l : List (Int × Int)} {gw : Int} {gi : Int} {gb : Int} {ns : List Int} {ab ib bb vb : Nat} {wa : Option Addr} {wc : Nat} {r : Int × List (Int × Int)} (B : Nat) (w : World) (hm : aclear_M img l ns = some r) : Spec Tryd.prog 101 #[(.pointer (some ⟨ab, 0, none⟩)), (.slice wa ns.length wc)] B w [blk ab (.cells [(.pointer (some ⟨vb, 0, none⟩)), (.int .i64 gw), (.int .i64 gi), (.int .i64 gb), (.pointer (some ⟨ib, 0, none⟩)), (.int .i64 gi), (.pointer (some ⟨bb, 0, none⟩)), (.int .i64 gb)].toArray 114 (0, 0)), kInt.row wa wc ns, viewA (ptr vb) img l] (fun v H' => v = .int .i64 r.1 ∧ H' = [blk ab (.cells [(.pointer (some ⟨vb, 0, none⟩)), (.int .i64 gw), (.int .i64 gi), (.int .i64 gb), (.pointer (some ⟨ib, 0, none⟩)), (.int .i64 gi), (.pointer (some ⟨bb, 0, none⟩)), (.int .i64 gb)].toArray 114 (0, 0)), kInt.row wa wc ns, viewA (ptr vb) img r.2]) := by
 refine spec_W Tryd.func101 rfl fun l0 hs => ?_
 unfold aclear_M at hm
 refine W.sr fun K1 hK1 => ?_
 refine zE 1 (hK1 _ _ ?_)
 refine W.seq fun K2 hK2 => ?_
 refine W.sr fun K3 hK3 => ?_
 refine zE 3 (hK3 _ _ ?_)
 refine W.block ?_
 have hs10 := St.f1 hs
 have hs11 := St.f1 hs10
 have hs12 := St.f2 hs11
 refine W.loop_iter (G := (List (Int × Int)) × Int) (σ := (List (Int × Int)) × Int) (fun | (l4, p5) => (l4, p5)) (fun | (l4, p5), s_, w_ => (∃ us, s_ = slots 24 [(0, (.pointer (some ⟨ab, 0, none⟩))), (8, (.slice wa ns.length wc)), (9, (.int .i64 (ns.length : Int))), (10, (.int .i64 p5))] us) ∧ St B w l0 w_ [viewA (ptr vb) img l4, blk ab (.cells [(.pointer (some ⟨vb, 0, none⟩)), (.int .i64 gw), (.int .i64 gi), (.int .i64 gb), (.pointer (some ⟨ib, 0, none⟩)), (.int .i64 gi), (.pointer (some ⟨bb, 0, none⟩)), (.int .i64 gb)].toArray 114 (0, 0)), kInt.row wa wc ns]) (l, 0) ⟨slots_intro _ (by kernel_rfl), hs12⟩ hm ?_
 rintro k6 ih7 ⟨l4, p5⟩ _ w8 ⟨⟨us, rfl⟩, hs9⟩ hm
 replace hm : aclear_B0 img ns k6 l4 p5 = some r := hm
 unfold aclear_B0 at hm
 refine W.sr fun K13 hK13 => ?_
 refine zE 1 (hK13 _ _ ?_)
 refine W.seq fun K14 hK14 => ?_
 refine W.cond (decide (p5 < (ns.length : Int))) (by kernel_rfl) (fun h15 => ?_) (fun h15 => ?_)
 ·
  obtain ⟨h15p, hm⟩ := iY hm h15
  refine W.skip ?_
  refine hK14 _ _ ?_
  refine W.seq fun K16 hK16 => ?_
  refine W.block ?_
  refine W.sr fun K17 hK17 => ?_
  obtain ⟨h19, hm⟩ := need_some hm
  have hk18 := lt_toNat h19
  refine ops_R (runs_index (a := wa) (n := ns.length) (z := p5) (size := 1) p5.toNat (nat_of h19.1) hk18 (kInt.addr (St.kcells kInt hs9 2 rfl) hk18) (by kernel_rfl)) ?_
  refine zL ((adr wa (p5.toNat * 1)).add 0) (.int .i64 (ns.getD p5.toNat 0)) (kInt.at (St.kcells kInt hs9 2 rfl) hk18 0 0 rfl) ?_
  refine zE 1 (hK17 _ _ ?_)
  refine W.sr fun K20 hK20 => ?_
  refine zR 3 ?_
  refine zL ⟨ab, 0, none⟩ (.pointer (some ⟨vb, 0, none⟩)) (hs9.cellAt 1 rfl rfl) ?_
  refine zR 1 ?_
  obtain ⟨r21, h22, hm⟩ := bind_some hm
  replace h22 := some_inj h22
  refine ops_call1 hs9 (by kernel_rfl) (put_spec (p := (.pointer (some ⟨vb, 0, none⟩))) (img := img) (l := l4) (at_ := (ns.getD p5.toNat 0)) (x_ := 0) B _) ?_
  rintro _ _ w25 ⟨hv23, hH24⟩ hs26
  rw [h22] at hv23
  try rw [h22] at hH24
  subst hv23 hH24
  have hs27 := St.ap1 hs26
  refine zE 1 (hK20 _ _ ?_)
  refine W.sr fun K28 hK28 => ?_
  refine zE 2 (hK28 _ _ ?_)
  refine W.cond (!decide (r21.1 = 0)) (by kernel_rfl) (fun h29 => ?_) (fun h29 => ?_)
  rotate_left
  ·
   have h29p : r21.1 = 0 := of_decide_eq_true (bnot_false h29)
   replace hm := ite_yes hm h29p
   refine W.skip ?_
   refine normal_block ?_
   refine hK16 _ _ ?_
   refine W.region ?_
   obtain ⟨h30, hm⟩ := need_some hm
   refine zI _ (wrap_i64 h30.1 h30.2) ?_
   refine zE 1 ?_
   refine loopAt_next ?_
   exact ih7 (r21.2, (p5 + 1)) _ _ ⟨slots_intro _ (by kernel_rfl), hs27⟩ hm
  ·
   have h29p : ¬ (r21.1 = 0) := of_decide_eq_false (bnot_true h29)
   replace hm := ite_no hm h29p
   refine W.sr fun K31 hK31 => ?_
   refine zE 2 (hK31 _ _ ?_)
   refine W.ret (ret_block (ret_seq (ret_seq (ret_block (ret_seq ?_)))))
   obtain rfl := some_inj hm
   have hs32 := St.f2 hs27
   have hs33 := St.f2 hs32
   refine ret_of (.int .i64 r21.1) (by kernel_rfl) ⟨_, ⟨rfl, rfl⟩, hs33⟩
 ·
  obtain ⟨h15p, hm⟩ := iN hm h15
  refine W.exit (exit_seq (exit_seq (exit_here ?_)))
  refine hK2 _ _ ?_
  refine W.sr fun K34 hK34 => ?_
  refine zE 1 (hK34 _ _ ?_)
  refine W.ret ?_
  obtain rfl := some_inj hm
  have hs35 := St.f2 hs9
  have hs36 := St.f2 hs35
  refine ret_of (.int .i64 0) (by kernel_rfl) ⟨_, ⟨rfl, rfl⟩, hs36⟩

end Go.Proofs.YtmmclabkkigiaaaDoor

set_option maxRecDepth 20000
namespace Go.Proofs.YtmmclabkkigiaaaDoor
open Go Go.RowKit
set_option linter.unusedSimpArgs false
set_option linter.unusedVariables false

theorem own_spec {ab cb vb ib bb : Nat} {gw gi gb n_ : Int} (B : Nat) (w : World) (hpl : -1000000 ≤ (placeOf 9 gw gi gb n_) ∧ (placeOf 9 gw gi gb n_) ≤ 1000000) (hcb : w.heap[cb]? = some (.cells [(.pointer (some ⟨ab, 0, none⟩))].toArray 53 (0, 0))) (hab : w.heap[ab]? = some (.cells [(.pointer (some ⟨vb, 0, none⟩)), (.int .i64 gw), (.int .i64 gi), (.int .i64 gb), (.pointer (some ⟨ib, 0, none⟩)), (.int .i64 gi), (.pointer (some ⟨bb, 0, none⟩)), (.int .i64 gb)].toArray 114 (0, 0))) : Spec Tryd.prog 93 #[(.int .i64 n_), (.pointer (some ⟨cb, 0, none⟩))] B w [] (fun v H' => ∃ a' c', v = .slice a' 8 c' ∧ H' = [kInt.row a' c' [((placeOf 9 gw gi gb n_) + 0), ((placeOf 9 gw gi gb n_) + 1), ((placeOf 9 gw gi gb n_) + 2), ((placeOf 9 gw gi gb n_) + 3), ((placeOf 9 gw gi gb n_) + 4), ((placeOf 9 gw gi gb n_) + 5), ((placeOf 9 gw gi gb n_) + 6), ((placeOf 9 gw gi gb n_) + 7)]]) := by
 refine spec_Q Tryd.func93 rfl fun hs => ?_
 refine W.sr fun K1 hK1 => ?_
 refine zE 1 (hK1 _ _ ?_)
 refine W.sr fun K2 hK2 => ?_
 refine zL ⟨cb, 0, none⟩ (.pointer (some ⟨ab, 0, none⟩)) (cell_of_blk (hs.old hcb) rfl) ?_
 refine zR 2 ?_
 refine ops_R (runs_loadAgg (ad := ⟨ab, 1, none⟩) (cs := [(.int .i64 gw), (.int .i64 gi), (.int .i64 gb)]) (by kernel_rfl) (cells_sub (hs.old hab) rfl)) ?_
 refine zR 1 ?_
 refine zC00 hs (blockat_spec (gw := gw) (gi := gi) (gb := gb) (n_ := n_) B _) fun w3 hs5 => ?_
 refine zE 1 (hK2 _ _ ?_)
 refine W.seq fun K6 hK6 => ?_
 refine W.sr fun K7 hK7 => ?_
 refine zE 1 (hK7 _ _ ?_)
 refine W.block ?_
 refine W.loop_start ?_
 refine loopAt_round ?_
 refine W.sr fun K8 hK8 => ?_
 refine zE 1 (hK8 _ _ ?_)
 refine W.seq fun K9 hK9 => ?_
 refine W.cond_true true (by kernel_rfl) rfl ?_
 refine W.skip ?_
 refine hK9 _ _ ?_
 refine W.seq fun K10 hK10 => ?_
 refine W.block ?_
 refine W.sr fun K11 hK11 => ?_
 refine zE 2 (hK11 _ _ ?_)
 refine W.region ?_
 refine zR 3 ?_
 have h12 : -9223372036854775808 ≤ ((placeOf 9 gw gi gb n_) + 0) ∧ ((placeOf 9 gw gi gb n_) + 0) ≤ 9223372036854775807 := by omega
 refine zI _ (wrap_i64 h12.1 h12.2) ?_
 refine ops_new (fun b => .slice (some ⟨b, 0, none⟩) 1 1) (.cells [(.int .i64 ((placeOf 9 gw gi gb n_) + 0))].toArray 3 (0, 0)) hs5 (by kernel_rfl) (fun b15 w13 hs14 => ?_)
 have hs16 := St.knil kInt hs14
 refine ops_appendK kInt (bytes := 8) (a' := (some ⟨b15, 0, none⟩)) (c' := 1) (l := []) (m := [((placeOf 9 gw gi gb n_) + 0)]) hs16 (by kernel_rfl) (by simp) (cells_blk (hs16.heapAt 1 rfl)) (by (unfold maxLen; try simp) <;> (simp only [List.length_cons, List.length_nil]; omega)) (by (try simp) <;> (simp only [List.length_cons, List.length_nil]; omega)) (fun a17 c18 w19 hs20 => ?_)
 have hs21 : St B w [] w19 [kInt.row a17 c18 ([((placeOf 9 gw gi gb n_) + 0)]), blk b15 (.cells [(.int .i64 ((placeOf 9 gw gi gb n_) + 0))].toArray 3 (0, 0))] := hs20
 refine zE 1 ?_
 refine normal_block ?_
 refine hK10 _ _ ?_
 refine W.region ?_
 refine zE 2 ?_
 refine loopAt_next ?_
 refine loopAt_round ?_
 refine W.sr fun K22 hK22 => ?_
 refine zE 1 (hK22 _ _ ?_)
 refine W.seq fun K23 hK23 => ?_
 refine W.cond_true true (by kernel_rfl) rfl ?_
 refine W.skip ?_
 refine hK23 _ _ ?_
 refine W.seq fun K24 hK24 => ?_
 refine W.block ?_
 refine W.sr fun K25 hK25 => ?_
 refine zE 2 (hK25 _ _ ?_)
 refine W.region ?_
 refine zR 3 ?_
 have h26 : -9223372036854775808 ≤ ((placeOf 9 gw gi gb n_) + 1) ∧ ((placeOf 9 gw gi gb n_) + 1) ≤ 9223372036854775807 := by omega
 refine zI _ (wrap_i64 h26.1 h26.2) ?_
 refine ops_new (fun b => .slice (some ⟨b, 0, none⟩) 1 1) (.cells [(.int .i64 ((placeOf 9 gw gi gb n_) + 1))].toArray 3 (0, 0)) hs21 (by kernel_rfl) (fun b29 w27 hs28 => ?_)
 have hs30 := St.f1 hs28
 refine ops_appendK kInt (bytes := 8) (a' := (some ⟨b29, 0, none⟩)) (c' := 1) (l := [((placeOf 9 gw gi gb n_) + 0)]) (m := [((placeOf 9 gw gi gb n_) + 1)]) hs30 (by kernel_rfl) (by simp) (cells_blk (hs30.heapAt 1 rfl)) (by (unfold maxLen; try simp) <;> (simp only [List.length_cons, List.length_nil]; omega)) (by (try simp) <;> (simp only [List.length_cons, List.length_nil]; omega)) (fun a31 c32 w33 hs34 => ?_)
 have hs35 : St B w [] w33 [kInt.row a31 c32 ([((placeOf 9 gw gi gb n_) + 0), ((placeOf 9 gw gi gb n_) + 1)]), blk b29 (.cells [(.int .i64 ((placeOf 9 gw gi gb n_) + 1))].toArray 3 (0, 0)), blk b15 (.cells [(.int .i64 ((placeOf 9 gw gi gb n_) + 0))].toArray 3 (0, 0))] := hs34
 refine zE 1 ?_
 refine normal_block ?_
 refine hK24 _ _ ?_
 refine W.region ?_
 refine zE 2 ?_
 refine loopAt_next ?_
 refine loopAt_round ?_
 refine W.sr fun K36 hK36 => ?_
 refine zE 1 (hK36 _ _ ?_)
 refine W.seq fun K37 hK37 => ?_
 refine W.cond_true true (by kernel_rfl) rfl ?_
 refine W.skip ?_
 refine hK37 _ _ ?_
 refine W.seq fun K38 hK38 => ?_
 refine W.block ?_
 refine W.sr fun K39 hK39 => ?_
 refine zE 2 (hK39 _ _ ?_)
 refine W.region ?_
 refine zR 3 ?_
 have h40 : -9223372036854775808 ≤ ((placeOf 9 gw gi gb n_) + 2) ∧ ((placeOf 9 gw gi gb n_) + 2) ≤ 9223372036854775807 := by omega
 refine zI _ (wrap_i64 h40.1 h40.2) ?_
 refine ops_new (fun b => .slice (some ⟨b, 0, none⟩) 1 1) (.cells [(.int .i64 ((placeOf 9 gw gi gb n_) + 2))].toArray 3 (0, 0)) hs35 (by kernel_rfl) (fun b43 w41 hs42 => ?_)
 have hs44 := St.f1 hs42
 refine ops_appendK kInt (bytes := 8) (a' := (some ⟨b43, 0, none⟩)) (c' := 1) (l := [((placeOf 9 gw gi gb n_) + 0), ((placeOf 9 gw gi gb n_) + 1)]) (m := [((placeOf 9 gw gi gb n_) + 2)]) hs44 (by kernel_rfl) (by simp) (cells_blk (hs44.heapAt 1 rfl)) (by (unfold maxLen; try simp) <;> (simp only [List.length_cons, List.length_nil]; omega)) (by (try simp) <;> (simp only [List.length_cons, List.length_nil]; omega)) (fun a45 c46 w47 hs48 => ?_)
 have hs49 : St B w [] w47 [kInt.row a45 c46 ([((placeOf 9 gw gi gb n_) + 0), ((placeOf 9 gw gi gb n_) + 1), ((placeOf 9 gw gi gb n_) + 2)]), blk b43 (.cells [(.int .i64 ((placeOf 9 gw gi gb n_) + 2))].toArray 3 (0, 0)), blk b29 (.cells [(.int .i64 ((placeOf 9 gw gi gb n_) + 1))].toArray 3 (0, 0)), blk b15 (.cells [(.int .i64 ((placeOf 9 gw gi gb n_) + 0))].toArray 3 (0, 0))] := hs48
 refine zE 1 ?_
 refine normal_block ?_
 refine hK38 _ _ ?_
 refine W.region ?_
 refine zE 2 ?_
 refine loopAt_next ?_
 refine loopAt_round ?_
 refine W.sr fun K50 hK50 => ?_
 refine zE 1 (hK50 _ _ ?_)
 refine W.seq fun K51 hK51 => ?_
 refine W.cond_true true (by kernel_rfl) rfl ?_
 refine W.skip ?_
 refine hK51 _ _ ?_
 refine W.seq fun K52 hK52 => ?_
 refine W.block ?_
 refine W.sr fun K53 hK53 => ?_
 refine zE 2 (hK53 _ _ ?_)
 refine W.region ?_
 refine zR 3 ?_
 have h54 : -9223372036854775808 ≤ ((placeOf 9 gw gi gb n_) + 3) ∧ ((placeOf 9 gw gi gb n_) + 3) ≤ 9223372036854775807 := by omega
 refine zI _ (wrap_i64 h54.1 h54.2) ?_
 refine ops_new (fun b => .slice (some ⟨b, 0, none⟩) 1 1) (.cells [(.int .i64 ((placeOf 9 gw gi gb n_) + 3))].toArray 3 (0, 0)) hs49 (by kernel_rfl) (fun b57 w55 hs56 => ?_)
 have hs58 := St.f1 hs56
 refine ops_appendK kInt (bytes := 8) (a' := (some ⟨b57, 0, none⟩)) (c' := 1) (l := [((placeOf 9 gw gi gb n_) + 0), ((placeOf 9 gw gi gb n_) + 1), ((placeOf 9 gw gi gb n_) + 2)]) (m := [((placeOf 9 gw gi gb n_) + 3)]) hs58 (by kernel_rfl) (by simp) (cells_blk (hs58.heapAt 1 rfl)) (by (unfold maxLen; try simp) <;> (simp only [List.length_cons, List.length_nil]; omega)) (by (try simp) <;> (simp only [List.length_cons, List.length_nil]; omega)) (fun a59 c60 w61 hs62 => ?_)
 have hs63 : St B w [] w61 [kInt.row a59 c60 ([((placeOf 9 gw gi gb n_) + 0), ((placeOf 9 gw gi gb n_) + 1), ((placeOf 9 gw gi gb n_) + 2), ((placeOf 9 gw gi gb n_) + 3)]), blk b57 (.cells [(.int .i64 ((placeOf 9 gw gi gb n_) + 3))].toArray 3 (0, 0)), blk b43 (.cells [(.int .i64 ((placeOf 9 gw gi gb n_) + 2))].toArray 3 (0, 0)), blk b29 (.cells [(.int .i64 ((placeOf 9 gw gi gb n_) + 1))].toArray 3 (0, 0)), blk b15 (.cells [(.int .i64 ((placeOf 9 gw gi gb n_) + 0))].toArray 3 (0, 0))] := hs62
 refine zE 1 ?_
 refine normal_block ?_
 refine hK52 _ _ ?_
 refine W.region ?_
 refine zE 2 ?_
 refine loopAt_next ?_
 refine loopAt_round ?_
 refine W.sr fun K64 hK64 => ?_
 refine zE 1 (hK64 _ _ ?_)
 refine W.seq fun K65 hK65 => ?_
 refine W.cond_true true (by kernel_rfl) rfl ?_
 refine W.skip ?_
 refine hK65 _ _ ?_
 refine W.seq fun K66 hK66 => ?_
 refine W.block ?_
 refine W.sr fun K67 hK67 => ?_
 refine zE 2 (hK67 _ _ ?_)
 refine W.region ?_
 refine zR 3 ?_
 have h68 : -9223372036854775808 ≤ ((placeOf 9 gw gi gb n_) + 4) ∧ ((placeOf 9 gw gi gb n_) + 4) ≤ 9223372036854775807 := by omega
 refine zI _ (wrap_i64 h68.1 h68.2) ?_
 refine ops_new (fun b => .slice (some ⟨b, 0, none⟩) 1 1) (.cells [(.int .i64 ((placeOf 9 gw gi gb n_) + 4))].toArray 3 (0, 0)) hs63 (by kernel_rfl) (fun b71 w69 hs70 => ?_)
 have hs72 := St.f1 hs70
 refine ops_appendK kInt (bytes := 8) (a' := (some ⟨b71, 0, none⟩)) (c' := 1) (l := [((placeOf 9 gw gi gb n_) + 0), ((placeOf 9 gw gi gb n_) + 1), ((placeOf 9 gw gi gb n_) + 2), ((placeOf 9 gw gi gb n_) + 3)]) (m := [((placeOf 9 gw gi gb n_) + 4)]) hs72 (by kernel_rfl) (by simp) (cells_blk (hs72.heapAt 1 rfl)) (by (unfold maxLen; try simp) <;> (simp only [List.length_cons, List.length_nil]; omega)) (by (try simp) <;> (simp only [List.length_cons, List.length_nil]; omega)) (fun a73 c74 w75 hs76 => ?_)
 have hs77 : St B w [] w75 [kInt.row a73 c74 ([((placeOf 9 gw gi gb n_) + 0), ((placeOf 9 gw gi gb n_) + 1), ((placeOf 9 gw gi gb n_) + 2), ((placeOf 9 gw gi gb n_) + 3), ((placeOf 9 gw gi gb n_) + 4)]), blk b71 (.cells [(.int .i64 ((placeOf 9 gw gi gb n_) + 4))].toArray 3 (0, 0)), blk b57 (.cells [(.int .i64 ((placeOf 9 gw gi gb n_) + 3))].toArray 3 (0, 0)), blk b43 (.cells [(.int .i64 ((placeOf 9 gw gi gb n_) + 2))].toArray 3 (0, 0)), blk b29 (.cells [(.int .i64 ((placeOf 9 gw gi gb n_) + 1))].toArray 3 (0, 0)), blk b15 (.cells [(.int .i64 ((placeOf 9 gw gi gb n_) + 0))].toArray 3 (0, 0))] := hs76
 refine zE 1 ?_
 refine normal_block ?_
 refine hK66 _ _ ?_
 refine W.region ?_
 refine zE 2 ?_
 refine loopAt_next ?_
 refine loopAt_round ?_
 refine W.sr fun K78 hK78 => ?_
 refine zE 1 (hK78 _ _ ?_)
 refine W.seq fun K79 hK79 => ?_
 refine W.cond_true true (by kernel_rfl) rfl ?_
 refine W.skip ?_
 refine hK79 _ _ ?_
 refine W.seq fun K80 hK80 => ?_
 refine W.block ?_
 refine W.sr fun K81 hK81 => ?_
 refine zE 2 (hK81 _ _ ?_)
 refine W.region ?_
 refine zR 3 ?_
 have h82 : -9223372036854775808 ≤ ((placeOf 9 gw gi gb n_) + 5) ∧ ((placeOf 9 gw gi gb n_) + 5) ≤ 9223372036854775807 := by omega
 refine zI _ (wrap_i64 h82.1 h82.2) ?_
 refine ops_new (fun b => .slice (some ⟨b, 0, none⟩) 1 1) (.cells [(.int .i64 ((placeOf 9 gw gi gb n_) + 5))].toArray 3 (0, 0)) hs77 (by kernel_rfl) (fun b85 w83 hs84 => ?_)
 have hs86 := St.f1 hs84
 refine ops_appendK kInt (bytes := 8) (a' := (some ⟨b85, 0, none⟩)) (c' := 1) (l := [((placeOf 9 gw gi gb n_) + 0), ((placeOf 9 gw gi gb n_) + 1), ((placeOf 9 gw gi gb n_) + 2), ((placeOf 9 gw gi gb n_) + 3), ((placeOf 9 gw gi gb n_) + 4)]) (m := [((placeOf 9 gw gi gb n_) + 5)]) hs86 (by kernel_rfl) (by simp) (cells_blk (hs86.heapAt 1 rfl)) (by (unfold maxLen; try simp) <;> (simp only [List.length_cons, List.length_nil]; omega)) (by (try simp) <;> (simp only [List.length_cons, List.length_nil]; omega)) (fun a87 c88 w89 hs90 => ?_)
 have hs91 : St B w [] w89 [kInt.row a87 c88 ([((placeOf 9 gw gi gb n_) + 0), ((placeOf 9 gw gi gb n_) + 1), ((placeOf 9 gw gi gb n_) + 2), ((placeOf 9 gw gi gb n_) + 3), ((placeOf 9 gw gi gb n_) + 4), ((placeOf 9 gw gi gb n_) + 5)]), blk b85 (.cells [(.int .i64 ((placeOf 9 gw gi gb n_) + 5))].toArray 3 (0, 0)), blk b71 (.cells [(.int .i64 ((placeOf 9 gw gi gb n_) + 4))].toArray 3 (0, 0)), blk b57 (.cells [(.int .i64 ((placeOf 9 gw gi gb n_) + 3))].toArray 3 (0, 0)), blk b43 (.cells [(.int .i64 ((placeOf 9 gw gi gb n_) + 2))].toArray 3 (0, 0)), blk b29 (.cells [(.int .i64 ((placeOf 9 gw gi gb n_) + 1))].toArray 3 (0, 0)), blk b15 (.cells [(.int .i64 ((placeOf 9 gw gi gb n_) + 0))].toArray 3 (0, 0))] := hs90
 refine zE 1 ?_
 refine normal_block ?_
 refine hK80 _ _ ?_
 refine W.region ?_
 refine zE 2 ?_
 refine loopAt_next ?_
 refine loopAt_round ?_
 refine W.sr fun K92 hK92 => ?_
 refine zE 1 (hK92 _ _ ?_)
 refine W.seq fun K93 hK93 => ?_
 refine W.cond_true true (by kernel_rfl) rfl ?_
 refine W.skip ?_
 refine hK93 _ _ ?_
 refine W.seq fun K94 hK94 => ?_
 refine W.block ?_
 refine W.sr fun K95 hK95 => ?_
 refine zE 2 (hK95 _ _ ?_)
 refine W.region ?_
 refine zR 3 ?_
 have h96 : -9223372036854775808 ≤ ((placeOf 9 gw gi gb n_) + 6) ∧ ((placeOf 9 gw gi gb n_) + 6) ≤ 9223372036854775807 := by omega
 refine zI _ (wrap_i64 h96.1 h96.2) ?_
 refine ops_new (fun b => .slice (some ⟨b, 0, none⟩) 1 1) (.cells [(.int .i64 ((placeOf 9 gw gi gb n_) + 6))].toArray 3 (0, 0)) hs91 (by kernel_rfl) (fun b99 w97 hs98 => ?_)
 have hs100 := St.f1 hs98
 refine ops_appendK kInt (bytes := 8) (a' := (some ⟨b99, 0, none⟩)) (c' := 1) (l := [((placeOf 9 gw gi gb n_) + 0), ((placeOf 9 gw gi gb n_) + 1), ((placeOf 9 gw gi gb n_) + 2), ((placeOf 9 gw gi gb n_) + 3), ((placeOf 9 gw gi gb n_) + 4), ((placeOf 9 gw gi gb n_) + 5)]) (m := [((placeOf 9 gw gi gb n_) + 6)]) hs100 (by kernel_rfl) (by simp) (cells_blk (hs100.heapAt 1 rfl)) (by (unfold maxLen; try simp) <;> (simp only [List.length_cons, List.length_nil]; omega)) (by (try simp) <;> (simp only [List.length_cons, List.length_nil]; omega)) (fun a101 c102 w103 hs104 => ?_)
 have hs105 : St B w [] w103 [kInt.row a101 c102 ([((placeOf 9 gw gi gb n_) + 0), ((placeOf 9 gw gi gb n_) + 1), ((placeOf 9 gw gi gb n_) + 2), ((placeOf 9 gw gi gb n_) + 3), ((placeOf 9 gw gi gb n_) + 4), ((placeOf 9 gw gi gb n_) + 5), ((placeOf 9 gw gi gb n_) + 6)]), blk b99 (.cells [(.int .i64 ((placeOf 9 gw gi gb n_) + 6))].toArray 3 (0, 0)), blk b85 (.cells [(.int .i64 ((placeOf 9 gw gi gb n_) + 5))].toArray 3 (0, 0)), blk b71 (.cells [(.int .i64 ((placeOf 9 gw gi gb n_) + 4))].toArray 3 (0, 0)), blk b57 (.cells [(.int .i64 ((placeOf 9 gw gi gb n_) + 3))].toArray 3 (0, 0)), blk b43 (.cells [(.int .i64 ((placeOf 9 gw gi gb n_) + 2))].toArray 3 (0, 0)), blk b29 (.cells [(.int .i64 ((placeOf 9 gw gi gb n_) + 1))].toArray 3 (0, 0)), blk b15 (.cells [(.int .i64 ((placeOf 9 gw gi gb n_) + 0))].toArray 3 (0, 0))] := hs104
 refine zE 1 ?_
 refine normal_block ?_
 refine hK94 _ _ ?_
 refine W.region ?_
 refine zE 2 ?_
 refine loopAt_next ?_
 refine loopAt_round ?_
 refine W.sr fun K106 hK106 => ?_
 refine zE 1 (hK106 _ _ ?_)
 refine W.seq fun K107 hK107 => ?_
 refine W.cond_true true (by kernel_rfl) rfl ?_
 refine W.skip ?_
 refine hK107 _ _ ?_
 refine W.seq fun K108 hK108 => ?_
 refine W.block ?_
 refine W.sr fun K109 hK109 => ?_
 refine zE 2 (hK109 _ _ ?_)
 refine W.region ?_
 refine zR 3 ?_
 have h110 : -9223372036854775808 ≤ ((placeOf 9 gw gi gb n_) + 7) ∧ ((placeOf 9 gw gi gb n_) + 7) ≤ 9223372036854775807 := by omega
 refine zI _ (wrap_i64 h110.1 h110.2) ?_
 refine ops_new (fun b => .slice (some ⟨b, 0, none⟩) 1 1) (.cells [(.int .i64 ((placeOf 9 gw gi gb n_) + 7))].toArray 3 (0, 0)) hs105 (by kernel_rfl) (fun b113 w111 hs112 => ?_)
 have hs114 := St.f1 hs112
 refine ops_appendK kInt (bytes := 8) (a' := (some ⟨b113, 0, none⟩)) (c' := 1) (l := [((placeOf 9 gw gi gb n_) + 0), ((placeOf 9 gw gi gb n_) + 1), ((placeOf 9 gw gi gb n_) + 2), ((placeOf 9 gw gi gb n_) + 3), ((placeOf 9 gw gi gb n_) + 4), ((placeOf 9 gw gi gb n_) + 5), ((placeOf 9 gw gi gb n_) + 6)]) (m := [((placeOf 9 gw gi gb n_) + 7)]) hs114 (by kernel_rfl) (by simp) (cells_blk (hs114.heapAt 1 rfl)) (by (unfold maxLen; try simp) <;> (simp only [List.length_cons, List.length_nil]; omega)) (by (try simp) <;> (simp only [List.length_cons, List.length_nil]; omega)) (fun a115 c116 w117 hs118 => ?_)
 have hs119 : St B w [] w117 [kInt.row a115 c116 ([((placeOf 9 gw gi gb n_) + 0), ((placeOf 9 gw gi gb n_) + 1), ((placeOf 9 gw gi gb n_) + 2), ((placeOf 9 gw gi gb n_) + 3), ((placeOf 9 gw gi gb n_) + 4), ((placeOf 9 gw gi gb n_) + 5), ((placeOf 9 gw gi gb n_) + 6), ((placeOf 9 gw gi gb n_) + 7)]), blk b113 (.cells [(.int .i64 ((placeOf 9 gw gi gb n_) + 7))].toArray 3 (0, 0)), blk b99 (.cells [(.int .i64 ((placeOf 9 gw gi gb n_) + 6))].toArray 3 (0, 0)), blk b85 (.cells [(.int .i64 ((placeOf 9 gw gi gb n_) + 5))].toArray 3 (0, 0)), blk b71 (.cells [(.int .i64 ((placeOf 9 gw gi gb n_) + 4))].toArray 3 (0, 0)), blk b57 (.cells [(.int .i64 ((placeOf 9 gw gi gb n_) + 3))].toArray 3 (0, 0)), blk b43 (.cells [(.int .i64 ((placeOf 9 gw gi gb n_) + 2))].toArray 3 (0, 0)), blk b29 (.cells [(.int .i64 ((placeOf 9 gw gi gb n_) + 1))].toArray 3 (0, 0)), blk b15 (.cells [(.int .i64 ((placeOf 9 gw gi gb n_) + 0))].toArray 3 (0, 0))] := hs118
 refine zE 1 ?_
 refine normal_block ?_
 refine hK108 _ _ ?_
 refine W.region ?_
 refine zE 2 ?_
 refine loopAt_next ?_
 refine loopAt_round ?_
 refine W.sr fun K120 hK120 => ?_
 refine zE 1 (hK120 _ _ ?_)
 refine W.seq fun K121 hK121 => ?_
 refine W.cond_false false (by kernel_rfl) rfl ?_
 refine W.exit (exit_seq (exit_seq (exit_here ?_)))
 refine hK6 _ _ ?_
 refine W.sr fun K122 hK122 => ?_
 refine zE 2 (hK122 _ _ ?_)
 refine W.ret ?_
 have hs123 := St.tk1 hs119
 refine ret_of (.slice a115 (([((placeOf 9 gw gi gb n_) + 0), ((placeOf 9 gw gi gb n_) + 1), ((placeOf 9 gw gi gb n_) + 2), ((placeOf 9 gw gi gb n_) + 3), ((placeOf 9 gw gi gb n_) + 4), ((placeOf 9 gw gi gb n_) + 5), ((placeOf 9 gw gi gb n_) + 6), ((placeOf 9 gw gi gb n_) + 7)]).length) c116) (by kernel_rfl) ⟨_, ⟨a115, c116, rfl, rfl⟩, hs123⟩

end Go.Proofs.YtmmclabkkigiaaaDoor

set_option linter.unusedVariables false
set_option maxRecDepth 20000
namespace Go.Proofs.YtmmclabkkigiaaaDoor
open Go Go.RowKit
set_option linter.unusedSimpArgs false
set_option linter.unusedVariables false

def atake1_J1 (r6 : Int × Bool) (p22 : Int) (l23 : List (Int × Int)) : Option (Int × Int × List (Int × Int)) :=
 if p22 = 0 then (some (r6.1, 0, l23)) else (some (0, p22, l23))

def atake1_J2 (img : List Int) (gw : Int) (gi : Int) (gb : Int) (r6 : Int × Bool) (r15 : Int × List (Int × Int)) (p39 : Bool) : Option (Int × Int × List (Int × Int)) :=
 if p39 = true then (need (-1000000 ≤ (placeOf 9 gw gi gb r6.1) ∧ (placeOf 9 gw gi gb r6.1) ≤ 1000000) <|
(aclear_M img r15.2 ([((placeOf 9 gw gi gb r6.1) + 0), ((placeOf 9 gw gi gb r6.1) + 1), ((placeOf 9 gw gi gb r6.1) + 2), ((placeOf 9 gw gi gb r6.1) + 3), ((placeOf 9 gw gi gb r6.1) + 4), ((placeOf 9 gw gi gb r6.1) + 5), ((placeOf 9 gw gi gb r6.1) + 6), ((placeOf 9 gw gi gb r6.1) + 7)])).bind fun r49 =>
atake1_J1 r6 r49.1 r49.2) else (atake1_J1 r6 r15.1 r15.2)

def atake1_M (img : List Int) (l : List (Int × Int)) (gw : Int) (gi : Int) (gb : Int) (at_ : Int) (many : Int) : Option (Int × Int × List (Int × Int)) :=
 (mclear_M img l at_ many).bind fun r6 =>
if r6.2 = true then ((mset_M img l at_ many r6.1 true).bind fun r15 =>
if r15.1 = 0 then (atake1_J2 img gw gi gb r6 r15 true) else (atake1_J2 img gw gi gb r6 r15 false)) else (some (0, 7, l))

theorem atake1_walk {img : List Int} {l : List (Int × Int)} {gw : Int} {gi : Int} {gb : Int} {at_ : Int} {many : Int} {pm : Int} {ab ib bb vb mb cb : Nat} {r : Int × Int × List (Int × Int)} (B : Nat) (w : World) (hG : 0 < B) (hT : CellsAt (some ⟨0, 0, none⟩) tab8 w) (hm : atake1_M img l gw gi gb at_ many = some r) : Spec Tryd.prog 92 #[(.pointer (some ⟨ab, 0, none⟩)), (.agg #[(.pointer (some ⟨mb, 0, none⟩)), (.int .i64 pm)]), (.func (.func 93) #[] #[(.pointer (some ⟨cb, 0, none⟩))])] B w [blk ab (.cells [(.pointer (some ⟨vb, 0, none⟩)), (.int .i64 gw), (.int .i64 gi), (.int .i64 gb), (.pointer (some ⟨ib, 0, none⟩)), (.int .i64 gi), (.pointer (some ⟨bb, 0, none⟩)), (.int .i64 gb)].toArray 114 (0, 0)), blk mb (.cells [(.pointer (some ⟨vb, 0, none⟩)), (.int .i64 at_), (.int .i64 many)].toArray 136 (0, 0)), blk cb (.cells [(.pointer (some ⟨ab, 0, none⟩))].toArray 53 (0, 0)), viewA (ptr vb) img l] (fun v H' => v = .tuple #[.int .i64 r.1, .int .i64 r.2.1] ∧ H' = [blk ab (.cells [(.pointer (some ⟨vb, 0, none⟩)), (.int .i64 gw), (.int .i64 gi), (.int .i64 gb), (.pointer (some ⟨ib, 0, none⟩)), (.int .i64 gi), (.pointer (some ⟨bb, 0, none⟩)), (.int .i64 gb)].toArray 114 (0, 0)), blk mb (.cells [(.pointer (some ⟨vb, 0, none⟩)), (.int .i64 at_), (.int .i64 many)].toArray 136 (0, 0)), blk cb (.cells [(.pointer (some ⟨ab, 0, none⟩))].toArray 53 (0, 0)), viewA (ptr vb) img r.2.2]) := by
 refine spec_W Tryd.func92 rfl fun l0 hs => ?_
 unfold atake1_M at hm
 refine W.sr fun K1 hK1 => ?_
 refine zN [(.pointer (some ⟨mb, 0, none⟩)), (.int .i64 pm)] 112 hs fun b4 w2 hs3 => ?_
 refine zE 2 (hK1 _ _ ?_)
 refine W.sr fun K5 hK5 => ?_
 refine zR 1 ?_
 refine zL ⟨b4, 0, none⟩ (.pointer (some ⟨mb, 0, none⟩)) (hs3.cellAt 0 rfl rfl) ?_
 obtain ⟨r6, h7, hm⟩ := bind_some hm
 refine zC00 hs3 (mclear_walk (hmb := (hs3.heapAt 2 rfl)) (hv := (hs3.entAt 4 rfl viewA_at)) (hT := (hs3.oldCellsB hG hT)) (hm := h7) B _) fun w8 hs10 => ?_
 refine zE 5 (hK5 _ _ ?_)
 refine W.seq fun K11 hK11 => ?_
 refine W.sr fun K12 hK12 => ?_
 refine zE 2 (hK12 _ _ ?_)
 refine W.cond (!r6.2) (by kernel_rfl) (fun h13 => ?_) (fun h13 => ?_)
 rotate_left
 ·
  have h13p : r6.2 = true := (bnot_false h13)
  replace hm := ite_yes hm h13p
  refine W.skip ?_
  refine hK11 _ _ ?_
  refine W.sr fun K14 hK14 => ?_
  refine zR 1 ?_
  refine zL ⟨b4, 0, none⟩ (.pointer (some ⟨mb, 0, none⟩)) (hs10.cellAt 0 rfl rfl) ?_
  refine zR 1 ?_
  obtain ⟨r15, h16, hm⟩ := bind_some hm
  have hs17 := St.f4 hs10
  have hs18 := St.f3 hs17
  refine zC22 hs18 (mset_walk (hm := h16) B _) fun w19 hs21 => ?_
  refine zE 1 (hK14 _ _ ?_)
  refine W.seq_join (fun s_ w_ => ∃ (p22 : Int) (l23 : List (Int × Int)), (∃ us, s_ = slots 38 [(8, (.int .i64 r6.1)), (10, (.int .i64 p22))] us) ∧ St B w l0 w_ [viewA (ptr vb) img l23, blk mb (.cells [(.pointer (some ⟨vb, 0, none⟩)), (.int .i64 at_), (.int .i64 many)].toArray 136 (0, 0)), blk b4 (.cells [(.pointer (some ⟨mb, 0, none⟩)), (.int .i64 pm)].toArray 112 (0, 0)), blk ab (.cells [(.pointer (some ⟨vb, 0, none⟩)), (.int .i64 gw), (.int .i64 gi), (.int .i64 gb), (.pointer (some ⟨ib, 0, none⟩)), (.int .i64 gi), (.pointer (some ⟨bb, 0, none⟩)), (.int .i64 gb)].toArray 114 (0, 0)), blk cb (.cells [(.pointer (some ⟨ab, 0, none⟩))].toArray 53 (0, 0))] ∧ atake1_J1 r6 p22 l23 = some r) ?_ ?_
  ·
   rintro _ w24 ⟨p22, l23, ⟨us, rfl⟩, hs25, hm⟩
   unfold atake1_J1 at hm
   refine W.seq fun K26 hK26 => ?_
   refine W.sr fun K27 hK27 => ?_
   refine zE 2 (hK27 _ _ ?_)
   refine W.cond (!decide (p22 = 0)) (by kernel_rfl) (fun h28 => ?_) (fun h28 => ?_)
   rotate_left
   ·
    have h28p : p22 = 0 := of_decide_eq_true (bnot_false h28)
    replace hm := ite_yes hm h28p
    refine W.skip ?_
    refine hK26 _ _ ?_
    refine W.sr fun K29 hK29 => ?_
    refine zE 3 (hK29 _ _ ?_)
    refine W.ret ?_
    obtain rfl := some_inj hm
    have hs30 := St.f4 hs25
    have hs31 := St.f2 hs30
    have hs32 := St.f4 hs31
    have hs33 := St.tk4 hs32
    refine ret_of (.tuple #[(.int .i64 r6.1), (.int .i64 0)]) (by kernel_rfl) ⟨_, ⟨rfl, rfl⟩, hs33⟩
   ·
    have h28p : ¬ (p22 = 0) := of_decide_eq_false (bnot_true h28)
    replace hm := ite_no hm h28p
    refine W.sr fun K34 hK34 => ?_
    refine zE 3 (hK34 _ _ ?_)
    refine W.ret (ret_seq ?_)
    obtain rfl := some_inj hm
    have hs35 := St.f4 hs25
    have hs36 := St.f2 hs35
    have hs37 := St.f4 hs36
    have hs38 := St.tk4 hs37
    refine ret_of (.tuple #[(.int .i64 0), (.int .i64 p22)]) (by kernel_rfl) ⟨_, ⟨rfl, rfl⟩, hs38⟩
  ·
   refine W.seq_join (fun s_ w_ => ∃ (p39 : Bool), (∃ us, s_ = slots 38 [(0, (.pointer (some ⟨ab, 0, none⟩))), (2, (.func (.func 93) #[] #[(.pointer (some ⟨cb, 0, none⟩))])), (8, (.int .i64 r6.1)), (10, (.int .i64 r15.1)), (28, (.bool p39))] us) ∧ St B w l0 w_ [viewA (ptr vb) img r15.2, blk ab (.cells [(.pointer (some ⟨vb, 0, none⟩)), (.int .i64 gw), (.int .i64 gi), (.int .i64 gb), (.pointer (some ⟨ib, 0, none⟩)), (.int .i64 gi), (.pointer (some ⟨bb, 0, none⟩)), (.int .i64 gb)].toArray 114 (0, 0)), blk mb (.cells [(.pointer (some ⟨vb, 0, none⟩)), (.int .i64 at_), (.int .i64 many)].toArray 136 (0, 0)), blk b4 (.cells [(.pointer (some ⟨mb, 0, none⟩)), (.int .i64 pm)].toArray 112 (0, 0)), blk cb (.cells [(.pointer (some ⟨ab, 0, none⟩))].toArray 53 (0, 0))] ∧ atake1_J2 img gw gi gb r6 r15 p39 = some r) ?_ ?_
   ·
    rintro _ w40 ⟨p39, ⟨us, rfl⟩, hs41, hm⟩
    unfold atake1_J2 at hm
    refine W.cond p39 (by kernel_rfl) (fun h42 => ?_) (fun h42 => ?_)
    ·
     have h42p : p39 = true := h42
     replace hm := ite_yes hm h42p
     refine W.region ?_
     refine zR 3 ?_
     obtain ⟨h45, hm⟩ := need_some hm
     refine ops_call0 hs41 (by kernel_rfl) (own_spec (n_ := r6.1) (hpl := h45) (hcb := (hs41.heapAt 4 rfl)) (hab := (hs41.heapAt 1 rfl)) B _) ?_
     rintro _ _ w46 ⟨a43, c44, rfl, rfl⟩ hs47
     have hs48 := St.ap1 hs47
     obtain ⟨r49, h50, hm⟩ := bind_some hm
     have hs51 := St.f1 hs48
     have hs52 := St.f1 hs51
     have hs53 := St.f2 hs52
     refine ops_call3 hs53 (by kernel_rfl) (aclear_walk (hm := h50) B _) ?_
     rintro _ _ w54 ⟨rfl, rfl⟩ hs55
     have hs56 := St.ap3 hs55
     refine zE 1 ?_
     have hs57 := St.f5 hs56
     have hs58 := St.f1 hs57
     have hs59 := St.f5 hs58
     have hs60 := St.f5 hs59
     have hs61 := St.f5 hs60
     have hs62 := St.tk5 hs61
     exact ⟨r49.1, r49.2, slots_intro _ (by kernel_rfl), hs62, hm⟩
    ·
     have h42p : ¬ (p39 = true) := ne_true_of_eq_false h42
     replace hm := ite_no hm h42p
     refine W.skip ?_
     have hs63 := St.f4 hs41
     have hs64 := St.f2 hs63
     have hs65 := St.f4 hs64
     have hs66 := St.f4 hs65
     have hs67 := St.f4 hs66
     exact ⟨r15.1, r15.2, slots_intro _ (by kernel_rfl), hs67, hm⟩
   ·
    refine W.region ?_
    refine zR 3 ?_
    rcases Bool.eq_false_or_eq_true (decide (r15.1 = 0)) with h68 | h68
    ·
     obtain ⟨h68p, hm⟩ := iY hm h68
     refine zS 25 h68 ?_
     refine zS 24 h68 ?_
     refine zE 3 ?_
     have hs69 := St.f4 hs21
     have hs70 := St.f3 hs69
     have hs71 := St.f2 hs70
     have hs72 := St.f4 hs71
     have hs73 := St.f4 hs72
     exact ⟨true, slots_intro _ (by kernel_rfl), hs73, hm⟩
    ·
     obtain ⟨h68p, hm⟩ := iN hm h68
     refine zS 25 h68 ?_
     refine zS 24 h68 ?_
     refine zE 3 ?_
     have hs74 := St.f4 hs21
     have hs75 := St.f3 hs74
     have hs76 := St.f2 hs75
     have hs77 := St.f4 hs76
     have hs78 := St.f4 hs77
     exact ⟨false, slots_intro _ (by kernel_rfl), hs78, hm⟩
 ·
  have h13p : ¬ (r6.2 = true) := ne_true_of_eq_false (bnot_true h13)
  replace hm := ite_no hm h13p
  refine W.sr fun K79 hK79 => ?_
  refine zE 2 (hK79 _ _ ?_)
  refine W.ret (ret_seq ?_)
  obtain rfl := some_inj hm
  have hs80 := St.f4 hs10
  have hs81 := St.f4 hs80
  have hs82 := St.f4 hs81
  have hs83 := St.f4 hs82
  have hs84 := St.tk4 hs83
  refine ret_of (.tuple #[(.int .i64 0), (.int .i64 7)]) (by kernel_rfl) ⟨_, ⟨rfl, rfl⟩, hs84⟩

end Go.Proofs.YtmmclabkkigiaaaDoor

set_option maxRecDepth 20000
namespace Go.Proofs.YtmmclabkkigiaaaDoor
open Go Go.RowKit
set_option linter.unusedSimpArgs false
set_option linter.unusedVariables false

theorem of_ok {vb : Nat} {img : List Int} {l : List (Int × Int)} {at_ many : Int} (B : Nat) (w : World) (hv : ViewAt (ptr vb) img l w) (hz : (img.length : Int) ≤ 1000000000000) (ho : (0 ≤ at_ ∧ at_ < (img.length : Int)) ∧ (1 ≤ many ∧ many ≤ 1000000000000) ∧ (many - 1) / 64 < (img.length : Int) - at_) : Spec Tryd.prog 58 #[(.pointer (some ⟨vb, 0, none⟩)), (.int .i64 at_), (.int .i64 many)] B w [] (fun v H' => ∃ b', v = .tuple #[ptr b', .int .i64 0] ∧ H' = [blk b' (.cells [(.pointer (some ⟨vb, 0, none⟩)), (.int .i64 at_), (.int .i64 many)].toArray 136 (0, 0))]) := by
 refine spec_Q Tryd.func58 rfl fun hs => ?_
 refine W.sr fun K1 hK1 => ?_
 refine zE 2 (hK1 _ _ ?_)
 refine W.seq fun K2 hK2 => ?_
 refine W.block ?_
 refine W.sr fun K3 hK3 => ?_
 refine zE 3 (hK3 _ _ ?_)
 refine W.cond_false false (by kernel_rfl) rfl ?_
 refine W.sr fun K4 hK4 => ?_
 refine zE 3 (hK4 _ _ ?_)
 refine W.cond (decide (many < 1)) (by kernel_rfl) (fun h5 => ?_) (fun h5 => ?_)
 ·
  have h5p := of_decide_eq_true h5
  refine W.sr fun K6 hK6 => ?_
  refine zE 2 (hK6 _ _ ?_)
  refine W.ret (ret_block (ret_seq ?_))
  exfalso
  omega
 ·
  have h5p := of_decide_eq_false h5
  refine W.seq fun K7 hK7 => ?_
  refine W.sr fun K8 hK8 => ?_
  refine zE 3 (hK8 _ _ ?_)
  refine W.cond (decide (at_ < 0)) (by kernel_rfl) (fun h9 => ?_) (fun h9 => ?_)
  ·
   have h9p := of_decide_eq_true h9
   refine W.skip ?_
   refine hK7 _ _ ?_
   refine W.cond (decide (at_ < 0)) (by kernel_rfl) (fun h10 => ?_) (fun h10 => ?_)
   ·
    have h10p := of_decide_eq_true h10
    refine W.sr fun K11 hK11 => ?_
    refine zE 2 (hK11 _ _ ?_)
    refine W.ret (ret_block (ret_seq ?_))
    exfalso
    omega
   ·
    have h10p := of_decide_eq_false h10
    refine W.skip ?_
    refine normal_block ?_
    refine hK2 _ _ ?_
    refine W.sr fun K12 hK12 => ?_
    refine zR 4 ?_
    refine zN [(.pointer (some ⟨vb, 0, none⟩)), (.int .i64 at_), (.int .i64 many)] 136 hs fun b15 w13 hs14 => ?_
    refine zE 2 (hK12 _ _ ?_)
    refine W.ret ?_
    refine ret_of (.tuple #[(.pointer (some ⟨b15, 0, none⟩)), (.int .i64 0)]) (by kernel_rfl) ⟨_, ⟨b15, rfl, rfl⟩, hs14⟩
  ·
   have h9p := of_decide_eq_false h9
   refine W.sr fun K16 hK16 => ?_
   refine zR 2 ?_
   refine zC00 hs (len_spec (hv := (viewAt_old hs hv)) B _) fun w17 hs19 => ?_
   refine zE 2 (hK16 _ _ ?_)
   refine W.cond (decide (at_ ≥ (img.length : Int))) (by kernel_rfl) (fun h20 => ?_) (fun h20 => ?_)
   ·
    have h20p := of_decide_eq_true h20
    refine W.skip ?_
    refine hK7 _ _ ?_
    refine W.cond (decide (at_ ≥ (img.length : Int))) (by kernel_rfl) (fun h21 => ?_) (fun h21 => ?_)
    ·
     have h21p := of_decide_eq_true h21
     refine W.sr fun K22 hK22 => ?_
     refine zE 2 (hK22 _ _ ?_)
     refine W.ret (ret_block (ret_seq ?_))
     exfalso
     omega
    ·
     have h21p := of_decide_eq_false h21
     refine W.skip ?_
     refine normal_block ?_
     refine hK2 _ _ ?_
     refine W.sr fun K23 hK23 => ?_
     refine zR 4 ?_
     refine zN [(.pointer (some ⟨vb, 0, none⟩)), (.int .i64 at_), (.int .i64 many)] 136 hs19 fun b26 w24 hs25 => ?_
     refine zE 2 (hK23 _ _ ?_)
     refine W.ret ?_
     refine ret_of (.tuple #[(.pointer (some ⟨b26, 0, none⟩)), (.int .i64 0)]) (by kernel_rfl) ⟨_, ⟨b26, rfl, rfl⟩, hs25⟩
   ·
    have h20p := of_decide_eq_false h20
    refine W.region ?_
    refine zR 1 ?_
    have h27 : -9223372036854775808 ≤ (many - 1) ∧ (many - 1) ≤ 9223372036854775807 := by omega
    refine zI _ (wrap_i64 h27.1 h27.2) ?_
    have h28 : 0 ≤ (many - 1) := by omega
    have h29 : -9223372036854775808 ≤ ((many - 1) / 64) ∧ ((many - 1) / 64) ≤ 9223372036854775807 := by omega
    refine ops_R (v := .int .i64 ((many - 1) / 64)) (runs_quo (k := .i64) (a := (many - 1)) (b := 64) (by kernel_rfl) (by decide) ((congrArg IntKind.i64.wrap (Int.tdiv_eq_ediv_of_nonneg h28)).trans (wrap_i64 h29.1 h29.2))) ?_
    refine zR 1 ?_
    refine zC00 hs19 (len_spec (hv := (viewAt_old hs19 hv)) B _) fun w30 hs32 => ?_
    refine zR 1 ?_
    have h33 : -9223372036854775808 ≤ ((img.length : Int) - at_) ∧ ((img.length : Int) - at_) ≤ 9223372036854775807 := by omega
    refine zI _ (wrap_i64 h33.1 h33.2) ?_
    refine zE 2 (hK7 _ _ ?_)
    refine W.cond (decide (((many - 1) / 64) ≥ ((img.length : Int) - at_))) (by kernel_rfl) (fun h34 => ?_) (fun h34 => ?_)
    ·
     have h34p := of_decide_eq_true h34
     refine W.sr fun K35 hK35 => ?_
     refine zE 2 (hK35 _ _ ?_)
     refine W.ret (ret_block (ret_seq ?_))
     exfalso
     omega
    ·
     have h34p := of_decide_eq_false h34
     refine W.skip ?_
     refine normal_block ?_
     refine hK2 _ _ ?_
     refine W.sr fun K36 hK36 => ?_
     refine zR 4 ?_
     refine zN [(.pointer (some ⟨vb, 0, none⟩)), (.int .i64 at_), (.int .i64 many)] 136 hs32 fun b39 w37 hs38 => ?_
     refine zE 2 (hK36 _ _ ?_)
     refine W.ret ?_
     refine ret_of (.tuple #[(.pointer (some ⟨b39, 0, none⟩)), (.int .i64 0)]) (by kernel_rfl) ⟨_, ⟨b39, rfl, rfl⟩, hs38⟩

end Go.Proofs.YtmmclabkkigiaaaDoor

set_option maxRecDepth 20000
namespace Go.Proofs.YtmmclabkkigiaaaDoor
open Go Go.RowKit
set_option linter.unusedSimpArgs false
set_option linter.unusedVariables false

theorem anew_ok {vb : Nat} {img : List Int} {l : List (Int × Int)} {gw gi gb : Int} (B : Nat) (w : World) (hv : ViewAt (ptr vb) img l w) (hz : (img.length : Int) ≤ 1000000000000) (hP : May gw gi gb ∧ wordsOf gw gi gb ≤ (img.length : Int)) : Spec Tryd.prog 27 #[(.pointer (some ⟨vb, 0, none⟩)), (.agg #[(.int .i64 gw), (.int .i64 gi), (.int .i64 gb)])] B w [] (fun v H' => ∃ ab ib bb, v = .tuple #[ptr ab, .int .i64 0] ∧ H' = [blk ab (.cells [(.pointer (some ⟨vb, 0, none⟩)), (.int .i64 gw), (.int .i64 gi), (.int .i64 gb), (.pointer (some ⟨ib, 0, none⟩)), (.int .i64 gi), (.pointer (some ⟨bb, 0, none⟩)), (.int .i64 gb)].toArray 114 (0, 0)), blk ib (.cells [(.pointer (some ⟨vb, 0, none⟩)), (.int .i64 (placeOf 6 gw gi gb 0)), (.int .i64 gi)].toArray 136 (0, 0)), blk bb (.cells [(.pointer (some ⟨vb, 0, none⟩)), (.int .i64 (placeOf 7 gw gi gb 0)), (.int .i64 gb)].toArray 136 (0, 0))]) := by
 refine spec_Q Tryd.func27 rfl fun hs => ?_
 have hm : May gw gi gb := hP.1
 have hl := hP.2
 have hm_ : (1 ≤ gw ∧ gw ≤ 4) ∧ (2 ≤ gi ∧ gi ≤ 64) ∧ (2 ≤ gb ∧ gb ≤ 512) := hm
 have hwd := words_may hm
 have hp6 := place6 hm
 have hp7 := place7 hm
 refine W.sr fun K1 hK1 => ?_
 refine zN [(.int .i64 gw), (.int .i64 gi), (.int .i64 gb)] 23 hs fun b4 w2 hs3 => ?_
 refine zE 2 (hK1 _ _ ?_)
 refine W.seq fun K5 hK5 => ?_
 refine W.block ?_
 refine W.sr fun K6 hK6 => ?_
 refine zE 3 (hK6 _ _ ?_)
 refine W.cond_false false (by kernel_rfl) rfl ?_
 refine W.sr fun K7 hK7 => ?_
 refine ops_R (runs_loadAgg (ad := ⟨b4, 0, none⟩) (cs := [(.int .i64 gw), (.int .i64 gi), (.int .i64 gb)]) (by kernel_rfl) (cells_sub (hs3.heapAt 0 rfl) rfl)) ?_
 refine zC00 hs3 (may_spec (gw := gw) (gi := gi) (gb := gb) B _) fun w8 hs10 => ?_
 refine zE 2 (hK7 _ _ ?_)
 refine W.cond (!(decide (May gw gi gb))) (by kernel_rfl) (fun h11 => ?_) (fun h11 => ?_)
 ·
  have h11p : ¬ (May gw gi gb) := of_decide_eq_false (bnot_true h11)
  refine W.sr fun K12 hK12 => ?_
  refine zE 2 (hK12 _ _ ?_)
  refine W.ret (ret_block (ret_seq ?_))
  exfalso
  first | omega | (exact absurd hm (by assumption))
 ·
  have h11p : May gw gi gb := of_decide_eq_true (bnot_false h11)
  refine W.seq fun K13 hK13 => ?_
  have hs14 := hs10.drew
  refine W.regionD [(0, 0), (1, 1), (0, 0), (6, 4), (10, 10), (24, 16)] (fun w_ => St B w [] w_ [blk b4 (.cells [(.int .i64 gw), (.int .i64 gi), (.int .i64 gb)].toArray 23 (0, 0))]) (by kernel_rfl) hs14 ?_
  refine any_val (v := (.pointer (some ⟨vb, 0, none⟩))) (v' := (.pointer (some ⟨vb, 0, none⟩))) 0 (by kernel_rfl) (fun _ => by kernel_rfl) rfl hs14 ?_
  refine any_R 2 (by kernel_rfl) (fun _ hS_ => runs_loadAgg (ad := ⟨b4, 0, none⟩) (cs := [(.int .i64 gw), (.int .i64 gi), (.int .i64 gb)]) (by kernel_rfl) (cells_sub (hS_.heapAt 0 rfl) rfl)) hs14 ?_
  refine any_step 1 (by kernel_rfl) (by kernel_rfl) ?_
  refine zC00 hs14 (len_spec (hv := (viewAt_old hs14 hv)) B _) fun w15 hs17 => ?_
  refine ops_done (by kernel_rfl) ⟨hs17, ?_⟩
  refine any_step 3 (by kernel_rfl) (by kernel_rfl) ?_
  refine zC00 hs17 (lwords_spec (gw := gw) (gi := gi) (gb := gb) B _) fun w18 hs20 => ?_
  refine ops_done (by kernel_rfl) ⟨hs20, ?_⟩
  refine any_val (v := (.bool (decide ((img.length : Int) < (wordsOf gw gi gb))))) (v' := (.bool (decide ((img.length : Int) < (wordsOf gw gi gb))))) 4 (by kernel_rfl) (fun _ => by kernel_rfl) rfl hs20 ?_
  refine any_val (v := (.bool (decide ((img.length : Int) < (wordsOf gw gi gb))))) (v' := (.bool (decide ((img.length : Int) < (wordsOf gw gi gb))))) 5 (by kernel_rfl) (fun _ => by kernel_rfl) rfl hs20 ?_
  refine any_done (by kernel_rfl) ?_
  refine hK13 _ _ ?_
  refine W.cond (decide ((img.length : Int) < (wordsOf gw gi gb))) (by kernel_rfl) (fun h21 => ?_) (fun h21 => ?_)
  ·
   have h21p := of_decide_eq_true h21
   refine W.sr fun K22 hK22 => ?_
   refine zE 2 (hK22 _ _ ?_)
   refine W.ret (ret_block (ret_seq ?_))
   exfalso
   first | omega | (exact absurd hm (by assumption))
  ·
   have h21p := of_decide_eq_false h21
   refine W.skip ?_
   refine normal_block ?_
   refine hK5 _ _ ?_
   refine W.seq fun K23 hK23 => ?_
   have hs24 := hs20.drew
   refine W.regionD [(0, 0), (0, 0), (2, 2), (0, 0), (8, 8), (21, 21), (32, 32), (64, 64), (64, 64), (255, 128), (1023, 256)] (fun w_ => St B w [] w_ [blk b4 (.cells [(.int .i64 gw), (.int .i64 gi), (.int .i64 gb)].toArray 23 (0, 0))]) (by kernel_rfl) hs24 ?_
   refine any_val (v := (.pointer (some ⟨vb, 0, none⟩))) (v' := (.pointer (some ⟨vb, 0, none⟩))) 0 (by kernel_rfl) (fun _ => by kernel_rfl) rfl hs24 ?_
   refine any_R 1 (by kernel_rfl) (fun _ hS_ => runs_loadAgg (ad := ⟨b4, 0, none⟩) (cs := [(.int .i64 gw), (.int .i64 gi), (.int .i64 gb)]) (by kernel_rfl) (cells_sub (hS_.heapAt 0 rfl) rfl)) hs24 ?_
   refine any_val (v := (.pointer (some ⟨b4, 1, none⟩))) (v' := (.pointer (some ⟨b4, 1, none⟩))) 3 (by kernel_rfl) (fun _ => by kernel_rfl) rfl hs24 ?_
   refine any_R 4 (by kernel_rfl) (fun _ hS_ => runs_load (ad := ⟨b4, 1, none⟩) (v := (.int .i64 gi)) (by kernel_rfl) (hS_.cellAt 0 rfl rfl)) hs24 ?_
   refine any_step 2 (by kernel_rfl) (by kernel_rfl) ?_
   refine zC00 hs24 (lmap6_spec (gw := gw) (gi := gi) (gb := gb) B _) fun w25 hs27 => ?_
   refine ops_done (by kernel_rfl) ⟨hs27, ?_⟩
   refine any_step 5 (by kernel_rfl) (by kernel_rfl) ?_
   have h28 : (img.length : Int) ≤ 1000000000000 := by first | omega | (exact absurd hm (by assumption))
   have h29 : (0 ≤ ((placeOf 6 gw gi gb 0) : Int) ∧ ((placeOf 6 gw gi gb 0) : Int) < (img.length : Int)) ∧ (1 ≤ (gi : Int) ∧ (gi : Int) ≤ 1000000000000) ∧ ((gi : Int) - 1) / 64 < (img.length : Int) - ((placeOf 6 gw gi gb 0) : Int) := by first | omega | (exact absurd hm (by assumption))
   refine ops_call0 hs27 (by kernel_rfl) (of_ok (hv := (viewAt_old hs27 hv)) (hz := h28) (ho := h29) B _) ?_
   rintro _ _ w31 ⟨b30, rfl, rfl⟩ hs32
   have hs33 := St.ap1 hs32
   have hs34 := St.f1 hs33
   have hs35 := St.tk1 hs34
   refine ops_done (by kernel_rfl) ⟨hs35, ?_⟩
   refine any_val (v := (.tuple #[(.pointer (some ⟨b30, 0, none⟩)), (.int .i64 0)])) (v' := (.tuple #[(.pointer (some ⟨b30, 0, none⟩)), (.int .i64 0)])) 6 (by kernel_rfl) (fun _ => by kernel_rfl) rfl hs35 ?_
   refine any_val (v := (.pointer (some ⟨b30, 0, none⟩))) (v' := (.pointer (some ⟨b30, 0, none⟩))) 7 (by kernel_rfl) (fun _ => by kernel_rfl) rfl hs35 ?_
   refine any_val (v := (.int .i64 0)) (v' := (.int .i64 0)) 8 (by kernel_rfl) (fun _ => by kernel_rfl) rfl hs35 ?_
   refine any_val (v := (.pointer (some ⟨b30, 0, none⟩))) (v' := (.pointer (some ⟨b30, 0, none⟩))) 9 (by kernel_rfl) (fun _ => by kernel_rfl) rfl hs35 ?_
   refine any_val (v := (.int .i64 0)) (v' := (.int .i64 0)) 10 (by kernel_rfl) (fun _ => by kernel_rfl) rfl hs35 ?_
   refine any_done (by kernel_rfl) ?_
   refine hK23 _ _ ?_
   refine W.seq fun K36 hK36 => ?_
   refine W.sr fun K37 hK37 => ?_
   refine zE 2 (hK37 _ _ ?_)
   refine W.cond_false false (by kernel_rfl) rfl ?_
   refine W.skip ?_
   refine hK36 _ _ ?_
   refine W.seq fun K38 hK38 => ?_
   have hs39 := hs33.drew
   refine W.regionD [(0, 0), (0, 0), (2, 2), (0, 0), (8, 8), (21, 21), (32, 32), (64, 64), (64, 64), (255, 128), (1023, 256)] (fun w_ => St B w [] w_ [blk b30 (.cells [(.pointer (some ⟨vb, 0, none⟩)), (.int .i64 (placeOf 6 gw gi gb 0)), (.int .i64 gi)].toArray 136 (0, 0)), blk b4 (.cells [(.int .i64 gw), (.int .i64 gi), (.int .i64 gb)].toArray 23 (0, 0))]) (by kernel_rfl) hs39 ?_
   refine any_val (v := (.pointer (some ⟨vb, 0, none⟩))) (v' := (.pointer (some ⟨vb, 0, none⟩))) 0 (by kernel_rfl) (fun _ => by kernel_rfl) rfl hs39 ?_
   refine any_R 1 (by kernel_rfl) (fun _ hS_ => runs_loadAgg (ad := ⟨b4, 0, none⟩) (cs := [(.int .i64 gw), (.int .i64 gi), (.int .i64 gb)]) (by kernel_rfl) (cells_sub (hS_.heapAt 1 rfl) rfl)) hs39 ?_
   refine any_val (v := (.pointer (some ⟨b4, 2, none⟩))) (v' := (.pointer (some ⟨b4, 2, none⟩))) 3 (by kernel_rfl) (fun _ => by kernel_rfl) rfl hs39 ?_
   refine any_R 4 (by kernel_rfl) (fun _ hS_ => runs_load (ad := ⟨b4, 2, none⟩) (v := (.int .i64 gb)) (by kernel_rfl) (hS_.cellAt 1 rfl rfl)) hs39 ?_
   refine any_step 2 (by kernel_rfl) (by kernel_rfl) ?_
   refine zC00 hs39 (lmap7_spec (gw := gw) (gi := gi) (gb := gb) B _) fun w40 hs42 => ?_
   refine ops_done (by kernel_rfl) ⟨hs42, ?_⟩
   refine any_step 5 (by kernel_rfl) (by kernel_rfl) ?_
   have h43 : (img.length : Int) ≤ 1000000000000 := by first | omega | (exact absurd hm (by assumption))
   have h44 : (0 ≤ ((placeOf 7 gw gi gb 0) : Int) ∧ ((placeOf 7 gw gi gb 0) : Int) < (img.length : Int)) ∧ (1 ≤ (gb : Int) ∧ (gb : Int) ≤ 1000000000000) ∧ ((gb : Int) - 1) / 64 < (img.length : Int) - ((placeOf 7 gw gi gb 0) : Int) := by first | omega | (exact absurd hm (by assumption))
   refine ops_call0 hs42 (by kernel_rfl) (of_ok (hv := (viewAt_old hs42 hv)) (hz := h43) (ho := h44) B _) ?_
   rintro _ _ w46 ⟨b45, rfl, rfl⟩ hs47
   have hs48 := St.ap1 hs47
   have hs49 := St.f2 hs48
   have hs50 := St.f2 hs49
   have hs51 := St.tk2 hs50
   refine ops_done (by kernel_rfl) ⟨hs51, ?_⟩
   refine any_val (v := (.tuple #[(.pointer (some ⟨b45, 0, none⟩)), (.int .i64 0)])) (v' := (.tuple #[(.pointer (some ⟨b45, 0, none⟩)), (.int .i64 0)])) 6 (by kernel_rfl) (fun _ => by kernel_rfl) rfl hs51 ?_
   refine any_val (v := (.pointer (some ⟨b45, 0, none⟩))) (v' := (.pointer (some ⟨b45, 0, none⟩))) 7 (by kernel_rfl) (fun _ => by kernel_rfl) rfl hs51 ?_
   refine any_val (v := (.int .i64 0)) (v' := (.int .i64 0)) 8 (by kernel_rfl) (fun _ => by kernel_rfl) rfl hs51 ?_
   refine any_val (v := (.pointer (some ⟨b45, 0, none⟩))) (v' := (.pointer (some ⟨b45, 0, none⟩))) 9 (by kernel_rfl) (fun _ => by kernel_rfl) rfl hs51 ?_
   refine any_val (v := (.int .i64 0)) (v' := (.int .i64 0)) 10 (by kernel_rfl) (fun _ => by kernel_rfl) rfl hs51 ?_
   refine any_done (by kernel_rfl) ?_
   refine hK38 _ _ ?_
   refine W.seq fun K52 hK52 => ?_
   refine W.sr fun K53 hK53 => ?_
   refine zE 2 (hK53 _ _ ?_)
   refine W.cond_false false (by kernel_rfl) rfl ?_
   refine W.skip ?_
   refine hK52 _ _ ?_
   refine W.sr fun K54 hK54 => ?_
   refine zR 1 ?_
   refine ops_R (runs_loadAgg (ad := ⟨b4, 0, none⟩) (cs := [(.int .i64 gw), (.int .i64 gi), (.int .i64 gb)]) (by kernel_rfl) (cells_sub (hs48.heapAt 2 rfl) rfl)) ?_
   refine zR 2 ?_
   refine zL ⟨b4, 1, none⟩ (.int .i64 gi) (hs48.cellAt 2 rfl rfl) ?_
   refine zR 3 ?_
   refine zL ⟨b4, 2, none⟩ (.int .i64 gb) (hs48.cellAt 2 rfl rfl) ?_
   refine zR 2 ?_
   refine zN [(.pointer (some ⟨vb, 0, none⟩)), (.int .i64 gw), (.int .i64 gi), (.int .i64 gb), (.pointer (some ⟨b30, 0, none⟩)), (.int .i64 gi), (.pointer (some ⟨b45, 0, none⟩)), (.int .i64 gb)] 114 hs48 fun b57 w55 hs56 => ?_
   refine zE 2 (hK54 _ _ ?_)
   refine W.ret ?_
   have hs58 := St.f1 hs56
   have hs59 := St.f2 hs58
   have hs60 := St.f2 hs59
   have hs61 := St.tk3 hs60
   refine ret_of (.tuple #[(.pointer (some ⟨b57, 0, none⟩)), (.int .i64 0)]) (by kernel_rfl) ⟨_, ⟨b57, b30, b45, rfl, rfl⟩, hs61⟩

theorem anew_err {vb : Nat} {img : List Int} {l : List (Int × Int)} {gw gi gb : Int} (B : Nat) (w : World) (hv : ViewAt (ptr vb) img l w) (hz : (img.length : Int) ≤ 1000000000000) (hN : ¬ (May gw gi gb ∧ wordsOf gw gi gb ≤ (img.length : Int))) : Spec Tryd.prog 27 #[(.pointer (some ⟨vb, 0, none⟩)), (.agg #[(.int .i64 gw), (.int .i64 gi), (.int .i64 gb)])] B w [] (fun v H' => v = .tuple #[.pointer none, .int .i64 (if May gw gi gb then 8 else 1)] ∧ H' = []) := by
 refine spec_Q Tryd.func27 rfl fun hs => ?_
 refine W.sr fun K1 hK1 => ?_
 refine zN [(.int .i64 gw), (.int .i64 gi), (.int .i64 gb)] 23 hs fun b4 w2 hs3 => ?_
 refine zE 2 (hK1 _ _ ?_)
 refine W.seq fun K5 hK5 => ?_
 refine W.block ?_
 refine W.sr fun K6 hK6 => ?_
 refine zE 3 (hK6 _ _ ?_)
 refine W.cond_false false (by kernel_rfl) rfl ?_
 refine W.sr fun K7 hK7 => ?_
 refine ops_R (runs_loadAgg (ad := ⟨b4, 0, none⟩) (cs := [(.int .i64 gw), (.int .i64 gi), (.int .i64 gb)]) (by kernel_rfl) (cells_sub (hs3.heapAt 0 rfl) rfl)) ?_
 refine zC00 hs3 (may_spec (gw := gw) (gi := gi) (gb := gb) B _) fun w8 hs10 => ?_
 refine zE 2 (hK7 _ _ ?_)
 refine W.cond (!(decide (May gw gi gb))) (by kernel_rfl) (fun h11 => ?_) (fun h11 => ?_)
 ·
  have h11p : ¬ (May gw gi gb) := of_decide_eq_false (bnot_true h11)
  refine W.sr fun K12 hK12 => ?_
  refine zE 2 (hK12 _ _ ?_)
  refine W.ret (ret_block (ret_seq ?_))
  have hs13 := St.tk0 hs10
  refine ret_of (.tuple #[(.pointer none), (.int .i64 1)]) (by kernel_rfl) ⟨_, ⟨congrArg (fun z => Value.tuple #[.pointer none, .int .i64 z]) (if_neg (by assumption)).symm, rfl⟩, hs13⟩
 ·
  have h11p : May gw gi gb := of_decide_eq_true (bnot_false h11)
  refine W.seq fun K14 hK14 => ?_
  have hs15 := hs10.drew
  refine W.regionD [(0, 0), (1, 1), (0, 0), (6, 4), (10, 10), (24, 16)] (fun w_ => St B w [] w_ [blk b4 (.cells [(.int .i64 gw), (.int .i64 gi), (.int .i64 gb)].toArray 23 (0, 0))]) (by kernel_rfl) hs15 ?_
  refine any_val (v := (.pointer (some ⟨vb, 0, none⟩))) (v' := (.pointer (some ⟨vb, 0, none⟩))) 0 (by kernel_rfl) (fun _ => by kernel_rfl) rfl hs15 ?_
  refine any_R 2 (by kernel_rfl) (fun _ hS_ => runs_loadAgg (ad := ⟨b4, 0, none⟩) (cs := [(.int .i64 gw), (.int .i64 gi), (.int .i64 gb)]) (by kernel_rfl) (cells_sub (hS_.heapAt 0 rfl) rfl)) hs15 ?_
  refine any_step 1 (by kernel_rfl) (by kernel_rfl) ?_
  refine zC00 hs15 (len_spec (hv := (viewAt_old hs15 hv)) B _) fun w16 hs18 => ?_
  refine ops_done (by kernel_rfl) ⟨hs18, ?_⟩
  refine any_step 3 (by kernel_rfl) (by kernel_rfl) ?_
  refine zC00 hs18 (lwords_spec (gw := gw) (gi := gi) (gb := gb) B _) fun w19 hs21 => ?_
  refine ops_done (by kernel_rfl) ⟨hs21, ?_⟩
  refine any_val (v := (.bool (decide ((img.length : Int) < (wordsOf gw gi gb))))) (v' := (.bool (decide ((img.length : Int) < (wordsOf gw gi gb))))) 4 (by kernel_rfl) (fun _ => by kernel_rfl) rfl hs21 ?_
  refine any_val (v := (.bool (decide ((img.length : Int) < (wordsOf gw gi gb))))) (v' := (.bool (decide ((img.length : Int) < (wordsOf gw gi gb))))) 5 (by kernel_rfl) (fun _ => by kernel_rfl) rfl hs21 ?_
  refine any_done (by kernel_rfl) ?_
  refine hK14 _ _ ?_
  refine W.cond (decide ((img.length : Int) < (wordsOf gw gi gb))) (by kernel_rfl) (fun h22 => ?_) (fun h22 => ?_)
  ·
   have h22p := of_decide_eq_true h22
   refine W.sr fun K23 hK23 => ?_
   refine zE 2 (hK23 _ _ ?_)
   refine W.ret (ret_block (ret_seq ?_))
   have hs24 := St.tk0 hs21
   refine ret_of (.tuple #[(.pointer none), (.int .i64 8)]) (by kernel_rfl) ⟨_, ⟨congrArg (fun z => Value.tuple #[.pointer none, .int .i64 z]) (if_pos (by assumption)).symm, rfl⟩, hs24⟩
  ·
   have h22p := of_decide_eq_false h22
   refine W.skip ?_
   refine normal_block ?_
   refine hK5 _ _ ?_
   refine W.seq fun K25 hK25 => ?_
   have hs26 := hs21.drew
   refine W.regionD [(0, 0), (0, 0), (2, 2), (0, 0), (8, 8), (21, 21), (32, 32), (64, 64), (64, 64), (255, 128), (1023, 256)] (fun w_ => St B w [] w_ [blk b4 (.cells [(.int .i64 gw), (.int .i64 gi), (.int .i64 gb)].toArray 23 (0, 0))]) (by kernel_rfl) hs26 ?_
   refine any_val (v := (.pointer (some ⟨vb, 0, none⟩))) (v' := (.pointer (some ⟨vb, 0, none⟩))) 0 (by kernel_rfl) (fun _ => by kernel_rfl) rfl hs26 ?_
   refine any_R 1 (by kernel_rfl) (fun _ hS_ => runs_loadAgg (ad := ⟨b4, 0, none⟩) (cs := [(.int .i64 gw), (.int .i64 gi), (.int .i64 gb)]) (by kernel_rfl) (cells_sub (hS_.heapAt 0 rfl) rfl)) hs26 ?_
   refine any_val (v := (.pointer (some ⟨b4, 1, none⟩))) (v' := (.pointer (some ⟨b4, 1, none⟩))) 3 (by kernel_rfl) (fun _ => by kernel_rfl) rfl hs26 ?_
   refine any_R 4 (by kernel_rfl) (fun _ hS_ => runs_load (ad := ⟨b4, 1, none⟩) (v := (.int .i64 gi)) (by kernel_rfl) (hS_.cellAt 0 rfl rfl)) hs26 ?_
   refine any_step 2 (by kernel_rfl) (by kernel_rfl) ?_
   refine zC00 hs26 (lmap6_spec (gw := gw) (gi := gi) (gb := gb) B _) fun w27 hs29 => ?_
   refine ops_done (by kernel_rfl) ⟨hs29, ?_⟩
   refine any_step 5 (by kernel_rfl) (by kernel_rfl) ?_
   have h30 : (img.length : Int) ≤ 1000000000000 := by first | omega | (exact absurd ⟨by assumption, by omega⟩ hN)
   have h31 : (0 ≤ ((placeOf 6 gw gi gb 0) : Int) ∧ ((placeOf 6 gw gi gb 0) : Int) < (img.length : Int)) ∧ (1 ≤ (gi : Int) ∧ (gi : Int) ≤ 1000000000000) ∧ ((gi : Int) - 1) / 64 < (img.length : Int) - ((placeOf 6 gw gi gb 0) : Int) := by first | omega | (exact absurd ⟨by assumption, by omega⟩ hN)
   refine ops_call0 hs29 (by kernel_rfl) (of_ok (hv := (viewAt_old hs29 hv)) (hz := h30) (ho := h31) B _) ?_
   rintro _ _ w33 ⟨b32, rfl, rfl⟩ hs34
   have hs35 := St.ap1 hs34
   have hs36 := St.f1 hs35
   have hs37 := St.tk1 hs36
   refine ops_done (by kernel_rfl) ⟨hs37, ?_⟩
   refine any_val (v := (.tuple #[(.pointer (some ⟨b32, 0, none⟩)), (.int .i64 0)])) (v' := (.tuple #[(.pointer (some ⟨b32, 0, none⟩)), (.int .i64 0)])) 6 (by kernel_rfl) (fun _ => by kernel_rfl) rfl hs37 ?_
   refine any_val (v := (.pointer (some ⟨b32, 0, none⟩))) (v' := (.pointer (some ⟨b32, 0, none⟩))) 7 (by kernel_rfl) (fun _ => by kernel_rfl) rfl hs37 ?_
   refine any_val (v := (.int .i64 0)) (v' := (.int .i64 0)) 8 (by kernel_rfl) (fun _ => by kernel_rfl) rfl hs37 ?_
   refine any_val (v := (.pointer (some ⟨b32, 0, none⟩))) (v' := (.pointer (some ⟨b32, 0, none⟩))) 9 (by kernel_rfl) (fun _ => by kernel_rfl) rfl hs37 ?_
   refine any_val (v := (.int .i64 0)) (v' := (.int .i64 0)) 10 (by kernel_rfl) (fun _ => by kernel_rfl) rfl hs37 ?_
   refine any_done (by kernel_rfl) ?_
   refine hK25 _ _ ?_
   refine W.seq fun K38 hK38 => ?_
   refine W.sr fun K39 hK39 => ?_
   refine zE 2 (hK39 _ _ ?_)
   refine W.cond_false false (by kernel_rfl) rfl ?_
   refine W.skip ?_
   refine hK38 _ _ ?_
   refine W.seq fun K40 hK40 => ?_
   have hs41 := hs35.drew
   refine W.regionD [(0, 0), (0, 0), (2, 2), (0, 0), (8, 8), (21, 21), (32, 32), (64, 64), (64, 64), (255, 128), (1023, 256)] (fun w_ => St B w [] w_ [blk b32 (.cells [(.pointer (some ⟨vb, 0, none⟩)), (.int .i64 (placeOf 6 gw gi gb 0)), (.int .i64 gi)].toArray 136 (0, 0)), blk b4 (.cells [(.int .i64 gw), (.int .i64 gi), (.int .i64 gb)].toArray 23 (0, 0))]) (by kernel_rfl) hs41 ?_
   refine any_val (v := (.pointer (some ⟨vb, 0, none⟩))) (v' := (.pointer (some ⟨vb, 0, none⟩))) 0 (by kernel_rfl) (fun _ => by kernel_rfl) rfl hs41 ?_
   refine any_R 1 (by kernel_rfl) (fun _ hS_ => runs_loadAgg (ad := ⟨b4, 0, none⟩) (cs := [(.int .i64 gw), (.int .i64 gi), (.int .i64 gb)]) (by kernel_rfl) (cells_sub (hS_.heapAt 1 rfl) rfl)) hs41 ?_
   refine any_val (v := (.pointer (some ⟨b4, 2, none⟩))) (v' := (.pointer (some ⟨b4, 2, none⟩))) 3 (by kernel_rfl) (fun _ => by kernel_rfl) rfl hs41 ?_
   refine any_R 4 (by kernel_rfl) (fun _ hS_ => runs_load (ad := ⟨b4, 2, none⟩) (v := (.int .i64 gb)) (by kernel_rfl) (hS_.cellAt 1 rfl rfl)) hs41 ?_
   refine any_step 2 (by kernel_rfl) (by kernel_rfl) ?_
   refine zC00 hs41 (lmap7_spec (gw := gw) (gi := gi) (gb := gb) B _) fun w42 hs44 => ?_
   refine ops_done (by kernel_rfl) ⟨hs44, ?_⟩
   refine any_step 5 (by kernel_rfl) (by kernel_rfl) ?_
   have h45 : (img.length : Int) ≤ 1000000000000 := by first | omega | (exact absurd ⟨by assumption, by omega⟩ hN)
   have h46 : (0 ≤ ((placeOf 7 gw gi gb 0) : Int) ∧ ((placeOf 7 gw gi gb 0) : Int) < (img.length : Int)) ∧ (1 ≤ (gb : Int) ∧ (gb : Int) ≤ 1000000000000) ∧ ((gb : Int) - 1) / 64 < (img.length : Int) - ((placeOf 7 gw gi gb 0) : Int) := by first | omega | (exact absurd ⟨by assumption, by omega⟩ hN)
   refine ops_call0 hs44 (by kernel_rfl) (of_ok (hv := (viewAt_old hs44 hv)) (hz := h45) (ho := h46) B _) ?_
   rintro _ _ w48 ⟨b47, rfl, rfl⟩ hs49
   have hs50 := St.ap1 hs49
   have hs51 := St.f2 hs50
   have hs52 := St.f2 hs51
   have hs53 := St.tk2 hs52
   refine ops_done (by kernel_rfl) ⟨hs53, ?_⟩
   refine any_val (v := (.tuple #[(.pointer (some ⟨b47, 0, none⟩)), (.int .i64 0)])) (v' := (.tuple #[(.pointer (some ⟨b47, 0, none⟩)), (.int .i64 0)])) 6 (by kernel_rfl) (fun _ => by kernel_rfl) rfl hs53 ?_
   refine any_val (v := (.pointer (some ⟨b47, 0, none⟩))) (v' := (.pointer (some ⟨b47, 0, none⟩))) 7 (by kernel_rfl) (fun _ => by kernel_rfl) rfl hs53 ?_
   refine any_val (v := (.int .i64 0)) (v' := (.int .i64 0)) 8 (by kernel_rfl) (fun _ => by kernel_rfl) rfl hs53 ?_
   refine any_val (v := (.pointer (some ⟨b47, 0, none⟩))) (v' := (.pointer (some ⟨b47, 0, none⟩))) 9 (by kernel_rfl) (fun _ => by kernel_rfl) rfl hs53 ?_
   refine any_val (v := (.int .i64 0)) (v' := (.int .i64 0)) 10 (by kernel_rfl) (fun _ => by kernel_rfl) rfl hs53 ?_
   refine any_done (by kernel_rfl) ?_
   refine hK40 _ _ ?_
   refine W.seq fun K54 hK54 => ?_
   refine W.sr fun K55 hK55 => ?_
   refine zE 2 (hK55 _ _ ?_)
   refine W.cond_false false (by kernel_rfl) rfl ?_
   refine W.skip ?_
   refine hK54 _ _ ?_
   refine W.sr fun K56 hK56 => ?_
   refine zR 1 ?_
   refine ops_R (runs_loadAgg (ad := ⟨b4, 0, none⟩) (cs := [(.int .i64 gw), (.int .i64 gi), (.int .i64 gb)]) (by kernel_rfl) (cells_sub (hs50.heapAt 2 rfl) rfl)) ?_
   refine zR 2 ?_
   refine zL ⟨b4, 1, none⟩ (.int .i64 gi) (hs50.cellAt 2 rfl rfl) ?_
   refine zR 3 ?_
   refine zL ⟨b4, 2, none⟩ (.int .i64 gb) (hs50.cellAt 2 rfl rfl) ?_
   refine zR 2 ?_
   refine zN [(.pointer (some ⟨vb, 0, none⟩)), (.int .i64 gw), (.int .i64 gi), (.int .i64 gb), (.pointer (some ⟨b32, 0, none⟩)), (.int .i64 gi), (.pointer (some ⟨b47, 0, none⟩)), (.int .i64 gb)] 114 hs50 fun b59 w57 hs58 => ?_
   refine zE 2 (hK56 _ _ ?_)
   refine W.ret ?_
   exfalso
   first | omega | (exact hN ⟨by assumption, by omega⟩)

end Go.Proofs.YtmmclabkkigiaaaDoor

set_option linter.unusedVariables false
set_option maxRecDepth 20000
namespace Go.Proofs.YtmmclabkkigiaaaDoor
open Go Go.RowKit
set_option linter.unusedSimpArgs false
set_option linter.unusedVariables false


def atakeb_M (img : List Int) (l : List (Int × Int)) (gw : Int) (gi : Int) (gb : Int) (ba : Int) : Option (Int × Int × List (Int × Int)) :=
 (atake1_M img l gw gi gb ba gb).bind fun r14 =>
some (r14.1, r14.2.1, r14.2.2)

theorem atakeb_walk {img : List Int} {l : List (Int × Int)} {gw : Int} {gi : Int} {gb : Int} {ia : Int} {ba : Int} {ab ib bb vb : Nat} {r : Int × Int × List (Int × Int)} (B : Nat) (w : World) (hG : 0 < B) (hT : CellsAt (some ⟨0, 0, none⟩) tab8 w) (hm : atakeb_M img l gw gi gb ba = some r) : Spec Tryd.prog 79 #[(.pointer (some ⟨ab, 0, none⟩))] B w [blk ab (.cells [(.pointer (some ⟨vb, 0, none⟩)), (.int .i64 gw), (.int .i64 gi), (.int .i64 gb), (.pointer (some ⟨ib, 0, none⟩)), (.int .i64 gi), (.pointer (some ⟨bb, 0, none⟩)), (.int .i64 gb)].toArray 114 (0, 0)), blk ib (.cells [(.pointer (some ⟨vb, 0, none⟩)), (.int .i64 ia), (.int .i64 gi)].toArray 136 (0, 0)), blk bb (.cells [(.pointer (some ⟨vb, 0, none⟩)), (.int .i64 ba), (.int .i64 gb)].toArray 136 (0, 0)), viewA (ptr vb) img l] (fun v H' => v = .tuple #[.int .i64 r.1, .int .i64 r.2.1] ∧ H' = [blk ab (.cells [(.pointer (some ⟨vb, 0, none⟩)), (.int .i64 gw), (.int .i64 gi), (.int .i64 gb), (.pointer (some ⟨ib, 0, none⟩)), (.int .i64 gi), (.pointer (some ⟨bb, 0, none⟩)), (.int .i64 gb)].toArray 114 (0, 0)), blk ib (.cells [(.pointer (some ⟨vb, 0, none⟩)), (.int .i64 ia), (.int .i64 gi)].toArray 136 (0, 0)), blk bb (.cells [(.pointer (some ⟨vb, 0, none⟩)), (.int .i64 ba), (.int .i64 gb)].toArray 136 (0, 0)), viewA (ptr vb) img r.2.2]) := by
 refine spec_W Tryd.func79 rfl fun l0 hs => ?_
 unfold atakeb_M at hm
 refine W.sr fun K1 hK1 => ?_
 refine zN [(.pointer (some ⟨ab, 0, none⟩))] 53 hs fun b4 w2 hs3 => ?_
 refine zE 2 (hK1 _ _ ?_)
 refine W.seq fun K5 hK5 => ?_
 refine W.sr fun K6 hK6 => ?_
 refine zL ⟨b4, 0, none⟩ (.pointer (some ⟨ab, 0, none⟩)) (hs3.cellAt 0 rfl rfl) ?_
 refine zE 1 (hK6 _ _ ?_)
 refine W.cond_false false (by kernel_rfl) rfl ?_
 refine W.skip ?_
 refine hK5 _ _ ?_
 refine W.seq fun K7 hK7 => ?_
 have hs8 := hs3.drew
 have hs9 := St.f3 hs8
 have hs10 := St.f3 hs9
 have hs11 := St.f3 hs10
 have hs12 := St.f3 hs11
 have hs13 := St.tk4 hs12
 refine W.regionD [(0, 0), (0, 0), (2, 2), (4, 4), (8, 8), (0, 0), (49, 49), (64, 64), (64, 64), (511, 128), (1023, 256)] (fun w_ => St B w l0 w_ [blk b4 (.cells [(.pointer (some ⟨ab, 0, none⟩))].toArray 53 (0, 0)), blk ab (.cells [(.pointer (some ⟨vb, 0, none⟩)), (.int .i64 gw), (.int .i64 gi), (.int .i64 gb), (.pointer (some ⟨ib, 0, none⟩)), (.int .i64 gi), (.pointer (some ⟨bb, 0, none⟩)), (.int .i64 gb)].toArray 114 (0, 0)), blk ib (.cells [(.pointer (some ⟨vb, 0, none⟩)), (.int .i64 ia), (.int .i64 gi)].toArray 136 (0, 0)), blk bb (.cells [(.pointer (some ⟨vb, 0, none⟩)), (.int .i64 ba), (.int .i64 gb)].toArray 136 (0, 0))]) (by kernel_rfl) hs13 ?_
 refine any_R 0 (by kernel_rfl) (fun _ hS_ => runs_load (ad := ⟨b4, 0, none⟩) (v := (.pointer (some ⟨ab, 0, none⟩))) (by kernel_rfl) (hS_.cellAt 0 rfl rfl)) hs13 ?_
 refine any_R 1 (by kernel_rfl) (fun _ hS_ => runs_load (ad := ⟨b4, 0, none⟩) (v := (.pointer (some ⟨ab, 0, none⟩))) (by kernel_rfl) (hS_.cellAt 0 rfl rfl)) hs13 ?_
 refine any_val (v := (.pointer (some ⟨ab, 0, none⟩))) (v' := (.pointer (some ⟨ab, 0, none⟩))) 2 (by kernel_rfl) (fun _ => by kernel_rfl) rfl hs13 ?_
 refine any_val (v := (.pointer (some ⟨ab, 6, none⟩))) (v' := (.pointer (some ⟨ab, 6, none⟩))) 3 (by kernel_rfl) (fun _ => by kernel_rfl) rfl hs13 ?_
 refine any_R 4 (by kernel_rfl) (fun _ hS_ => runs_loadAgg (ad := ⟨ab, 6, none⟩) (cs := [(.pointer (some ⟨bb, 0, none⟩)), (.int .i64 gb)]) (by kernel_rfl) (cells_sub (hS_.heapAt 1 rfl) rfl)) hs13 ?_
 refine any_val (v := (.func (.func 93) #[] #[(.pointer (some ⟨b4, 0, none⟩))])) (v' := (.func (.func 93) #[] #[(.pointer (some ⟨b4, 0, none⟩))])) 5 (by kernel_rfl) (fun _ => by kernel_rfl) rfl hs13 ?_
 refine any_step 6 (by kernel_rfl) (by kernel_rfl) ?_
 obtain ⟨r14, h15, hm⟩ := bind_some hm
 have hs16 := St.f4 hs8
 have hs17 := St.f1 hs16
 have hs18 := St.f4 hs17
 have hs19 := St.f3 hs18
 refine ops_call4 hs19 (by kernel_rfl) (atake1_walk (ab := ab) (ib := ib) (bb := bb) (vb := vb) (mb := bb) (img := img) (l := l) (gw := gw) (gi := gi) (gb := gb) (at_ := ba) (many := gb) (pm := gb) (cb := b4) (hG := hG) (hT := (hs8.oldCellsB hG hT)) (hm := h15) B _) ?_
 rintro _ _ w20 ⟨rfl, rfl⟩ hs21
 have hs22 := St.ap4 hs21
 have hs23 := St.f1 hs22
 have hs24 := St.f4 hs23
 have hs25 := St.f2 hs24
 have hs26 := St.f3 hs25
 have hs27 := St.tk4 hs26
 refine ops_done (by kernel_rfl) ⟨hs27, ?_⟩
 refine any_val (v := (.int .i64 r14.1)) (v' := (.int .i64 r14.1)) 7 (by kernel_rfl) (fun _ => by kernel_rfl) rfl hs27 ?_
 refine any_val (v := (.int .i64 r14.2.1)) (v' := (.int .i64 r14.2.1)) 8 (by kernel_rfl) (fun _ => by kernel_rfl) rfl hs27 ?_
 refine any_val (v := (.int .i64 r14.1)) (v' := (.int .i64 r14.1)) 9 (by kernel_rfl) (fun _ => by kernel_rfl) rfl hs27 ?_
 refine any_val (v := (.int .i64 r14.2.1)) (v' := (.int .i64 r14.2.1)) 10 (by kernel_rfl) (fun _ => by kernel_rfl) rfl hs27 ?_
 refine any_done (by kernel_rfl) ?_
 refine hK7 _ _ ?_
 refine W.ret ?_
 obtain rfl := some_inj hm
 have hs28 := St.f3 hs22
 have hs29 := St.f2 hs28
 have hs30 := St.f4 hs29
 have hs31 := St.f3 hs30
 have hs32 := St.tk4 hs31
 refine ret_of (.tuple #[(.int .i64 r14.1), (.int .i64 r14.2.1)]) (by kernel_rfl) ⟨_, ⟨rfl, rfl⟩, hs32⟩


def agiveb_M (img : List Int) (l : List (Int × Int)) (gb : Int) (ba : Int) (n_ : Int) : Option (Int × List (Int × Int)) :=
 (pgive_M img l ba gb gb n_).bind fun r5 =>
some (r5.1, r5.2)

theorem agiveb_walk {img : List Int} {l : List (Int × Int)} {gw : Int} {gi : Int} {gb : Int} {ia : Int} {ba : Int} {n_ : Int} {ab ib bb vb : Nat} {r : Int × List (Int × Int)} (B : Nat) (w : World) (hm : agiveb_M img l gb ba n_ = some r) : Spec Tryd.prog 81 #[(.pointer (some ⟨ab, 0, none⟩)), (.int .i64 n_)] B w [blk ab (.cells [(.pointer (some ⟨vb, 0, none⟩)), (.int .i64 gw), (.int .i64 gi), (.int .i64 gb), (.pointer (some ⟨ib, 0, none⟩)), (.int .i64 gi), (.pointer (some ⟨bb, 0, none⟩)), (.int .i64 gb)].toArray 114 (0, 0)), blk ib (.cells [(.pointer (some ⟨vb, 0, none⟩)), (.int .i64 ia), (.int .i64 gi)].toArray 136 (0, 0)), blk bb (.cells [(.pointer (some ⟨vb, 0, none⟩)), (.int .i64 ba), (.int .i64 gb)].toArray 136 (0, 0)), viewA (ptr vb) img l] (fun v H' => v = .int .i64 r.1 ∧ H' = [blk ab (.cells [(.pointer (some ⟨vb, 0, none⟩)), (.int .i64 gw), (.int .i64 gi), (.int .i64 gb), (.pointer (some ⟨ib, 0, none⟩)), (.int .i64 gi), (.pointer (some ⟨bb, 0, none⟩)), (.int .i64 gb)].toArray 114 (0, 0)), blk ib (.cells [(.pointer (some ⟨vb, 0, none⟩)), (.int .i64 ia), (.int .i64 gi)].toArray 136 (0, 0)), blk bb (.cells [(.pointer (some ⟨vb, 0, none⟩)), (.int .i64 ba), (.int .i64 gb)].toArray 136 (0, 0)), viewA (ptr vb) img r.2]) := by
 refine spec_W Tryd.func81 rfl fun l0 hs => ?_
 unfold agiveb_M at hm
 refine W.sr fun K1 hK1 => ?_
 refine zE 1 (hK1 _ _ ?_)
 refine W.seq fun K2 hK2 => ?_
 refine W.sr fun K3 hK3 => ?_
 refine zE 2 (hK3 _ _ ?_)
 refine W.cond_false false (by kernel_rfl) rfl ?_
 refine W.skip ?_
 refine hK2 _ _ ?_
 refine W.sr fun K4 hK4 => ?_
 refine zR 3 ?_
 refine ops_R (runs_loadAgg (ad := ⟨ab, 6, none⟩) (cs := [(.pointer (some ⟨bb, 0, none⟩)), (.int .i64 gb)]) (by kernel_rfl) (cells_sub (hs.heapAt 0 rfl) rfl)) ?_
 refine zR 1 ?_
 obtain ⟨r5, h6, hm⟩ := bind_some hm
 have hs7 := St.f3 hs
 have hs8 := St.f3 hs7
 refine zC22 hs8 (pgive_walk (hm := h6) B _) fun w9 hs11 => ?_
 refine zE 1 (hK4 _ _ ?_)
 refine W.ret ?_
 obtain rfl := some_inj hm
 have hs12 := St.f1 hs11
 have hs13 := St.f1 hs12
 have hs14 := St.f3 hs13
 have hs15 := St.f3 hs14
 refine ret_of (.int .i64 r5.1) (by kernel_rfl) ⟨_, ⟨rfl, rfl⟩, hs15⟩

def afree_M (img : List Int) (l : List (Int × Int)) (gi : Int) (gb : Int) (ia : Int) (ba : Int) : Option (Int × Int) :=
 (pfree_M img l ia gi gi).bind fun r6 =>
(pfree_M img l ba gb gb).bind fun r11 =>
some (r6, r11)

theorem afree_walk {img : List Int} {l : List (Int × Int)} {gw : Int} {gi : Int} {gb : Int} {ia : Int} {ba : Int} {ab ib bb vb : Nat} {r : Int × Int} (B : Nat) (w : World) (hab : w.heap[ab]? = some (.cells [(.pointer (some ⟨vb, 0, none⟩)), (.int .i64 gw), (.int .i64 gi), (.int .i64 gb), (.pointer (some ⟨ib, 0, none⟩)), (.int .i64 gi), (.pointer (some ⟨bb, 0, none⟩)), (.int .i64 gb)].toArray 114 (0, 0))) (hib : w.heap[ib]? = some (.cells [(.pointer (some ⟨vb, 0, none⟩)), (.int .i64 ia), (.int .i64 gi)].toArray 136 (0, 0))) (hbb : w.heap[bb]? = some (.cells [(.pointer (some ⟨vb, 0, none⟩)), (.int .i64 ba), (.int .i64 gb)].toArray 136 (0, 0))) (hv : ViewAt (ptr vb) img l w) (hm : afree_M img l gi gb ia ba = some r) : Spec Tryd.prog 28 #[(.pointer (some ⟨ab, 0, none⟩))] B w [] (fun v H' => v = .tuple #[.int .i64 r.1, .int .i64 r.2] ∧ H' = []) := by
 refine spec_Q Tryd.func28 rfl fun hs => ?_
 unfold afree_M at hm
 refine W.sr fun K1 hK1 => ?_
 refine zE 2 (hK1 _ _ ?_)
 refine W.seq fun K2 hK2 => ?_
 refine W.sr fun K3 hK3 => ?_
 refine zE 2 (hK3 _ _ ?_)
 refine W.cond_false false (by kernel_rfl) rfl ?_
 refine W.skip ?_
 refine hK2 _ _ ?_
 refine W.seq fun K4 hK4 => ?_
 have hs5 := hs.drew
 refine W.regionD [(0, 0), (1, 1), (2, 2), (4, 4), (8, 8), (0, 0), (32, 32), (64, 64), (128, 128), (272, 256), (543, 16), (2047, 512)] (fun w_ => St B w [] w_ []) (by kernel_rfl) hs5 ?_
 refine any_val (v := (.pointer (some ⟨ab, 0, none⟩))) (v' := (.pointer (some ⟨ab, 0, none⟩))) 0 (by kernel_rfl) (fun _ => by kernel_rfl) rfl hs5 ?_
 refine any_val (v := (.pointer (some ⟨ab, 0, none⟩))) (v' := (.pointer (some ⟨ab, 0, none⟩))) 1 (by kernel_rfl) (fun _ => by kernel_rfl) rfl hs5 ?_
 refine any_val (v := (.pointer (some ⟨ab, 4, none⟩))) (v' := (.pointer (some ⟨ab, 4, none⟩))) 2 (by kernel_rfl) (fun _ => by kernel_rfl) rfl hs5 ?_
 refine any_R 3 (by kernel_rfl) (fun _ hS_ => runs_loadAgg (ad := ⟨ab, 4, none⟩) (cs := [(.pointer (some ⟨ib, 0, none⟩)), (.int .i64 gi)]) (by kernel_rfl) (cells_sub (hS_.old hab) rfl)) hs5 ?_
 refine any_val (v := (.pointer (some ⟨ab, 0, none⟩))) (v' := (.pointer (some ⟨ab, 0, none⟩))) 5 (by kernel_rfl) (fun _ => by kernel_rfl) rfl hs5 ?_
 refine any_val (v := (.pointer (some ⟨ab, 0, none⟩))) (v' := (.pointer (some ⟨ab, 0, none⟩))) 6 (by kernel_rfl) (fun _ => by kernel_rfl) rfl hs5 ?_
 refine any_val (v := (.pointer (some ⟨ab, 6, none⟩))) (v' := (.pointer (some ⟨ab, 6, none⟩))) 7 (by kernel_rfl) (fun _ => by kernel_rfl) rfl hs5 ?_
 refine any_R 8 (by kernel_rfl) (fun _ hS_ => runs_loadAgg (ad := ⟨ab, 6, none⟩) (cs := [(.pointer (some ⟨bb, 0, none⟩)), (.int .i64 gb)]) (by kernel_rfl) (cells_sub (hS_.old hab) rfl)) hs5 ?_
 refine any_step 4 (by kernel_rfl) (by kernel_rfl) ?_
 obtain ⟨r6, h7, hm⟩ := bind_some hm
 refine zC00 hs5 (pfree_walk (hmb := (hs5.old hib)) (hv := (viewAt_old hs5 hv)) (hm := h7) B _) fun w8 hs10 => ?_
 refine ops_done (by kernel_rfl) ⟨hs10, ?_⟩
 refine any_step 9 (by kernel_rfl) (by kernel_rfl) ?_
 obtain ⟨r11, h12, hm⟩ := bind_some hm
 refine zC00 hs10 (pfree_walk (hmb := (hs10.old hbb)) (hv := (viewAt_old hs10 hv)) (hm := h12) B _) fun w13 hs15 => ?_
 refine ops_done (by kernel_rfl) ⟨hs15, ?_⟩
 refine any_val (v := (.int .i64 r6)) (v' := (.int .i64 r6)) 10 (by kernel_rfl) (fun _ => by kernel_rfl) rfl hs15 ?_
 refine any_val (v := (.int .i64 r11)) (v' := (.int .i64 r11)) 11 (by kernel_rfl) (fun _ => by kernel_rfl) rfl hs15 ?_
 refine any_done (by kernel_rfl) ?_
 refine hK4 _ _ ?_
 refine W.ret ?_
 obtain rfl := some_inj hm
 refine ret_of (.tuple #[(.int .i64 r6), (.int .i64 r11)]) (by kernel_rfl) ⟨_, ⟨rfl, rfl⟩, hs15⟩

theorem atakeb_nil  (B : Nat) (w : World) : Spec Tryd.prog 79 #[(.pointer none)] B w [] (fun v H' => v = (.tuple #[(.int .i64 0), (.int .i64 2)]) ∧ H' = []) := by
 refine spec_Q Tryd.func79 rfl fun hs => ?_
 refine W.sr fun K1 hK1 => ?_
 refine zN [(.pointer none)] 53 hs fun b4 w2 hs3 => ?_
 refine zE 2 (hK1 _ _ ?_)
 refine W.seq fun K5 hK5 => ?_
 refine W.sr fun K6 hK6 => ?_
 refine zL ⟨b4, 0, none⟩ (.pointer none) (hs3.cellAt 0 rfl rfl) ?_
 refine zE 1 (hK6 _ _ ?_)
 refine W.cond_true true (by kernel_rfl) rfl ?_
 refine W.sr fun K7 hK7 => ?_
 refine zE 2 (hK7 _ _ ?_)
 refine W.ret (ret_seq ?_)
 have hs8 := St.tk0 hs3
 refine ret_of (.tuple #[(.int .i64 0), (.int .i64 2)]) (by kernel_rfl) ⟨_, ⟨rfl, rfl⟩, hs8⟩

theorem afree_nil  (B : Nat) (w : World) : Spec Tryd.prog 28 #[(.pointer none)] B w [] (fun v H' => v = (.tuple #[(.int .i64 0), (.int .i64 0)]) ∧ H' = []) := by
 refine spec_Q Tryd.func28 rfl fun hs => ?_
 refine W.sr fun K1 hK1 => ?_
 refine zE 2 (hK1 _ _ ?_)
 refine W.seq fun K2 hK2 => ?_
 refine W.sr fun K3 hK3 => ?_
 refine zE 2 (hK3 _ _ ?_)
 refine W.cond_true true (by kernel_rfl) rfl ?_
 refine W.sr fun K4 hK4 => ?_
 refine zE 2 (hK4 _ _ ?_)
 refine W.ret (ret_seq ?_)
 refine ret_of (.tuple #[(.int .i64 0), (.int .i64 0)]) (by kernel_rfl) ⟨_, ⟨rfl, rfl⟩, hs⟩


theorem agiveb_nil {n_ : Int} (B : Nat) (w : World) : Spec Tryd.prog 81 #[(.pointer none), (.int .i64 n_)] B w [] (fun v H' => v = (.int .i64 2) ∧ H' = []) := by
 refine spec_Q Tryd.func81 rfl fun hs => ?_
 refine W.sr fun K1 hK1 => ?_
 refine zE 1 (hK1 _ _ ?_)
 refine W.seq fun K2 hK2 => ?_
 refine W.sr fun K3 hK3 => ?_
 refine zE 2 (hK3 _ _ ?_)
 refine W.cond_true true (by kernel_rfl) rfl ?_
 refine W.sr fun K4 hK4 => ?_
 refine zE 1 (hK4 _ _ ?_)
 refine W.ret (ret_seq ?_)
 refine ret_of (.int .i64 2) (by kernel_rfl) ⟨_, ⟨rfl, rfl⟩, hs⟩

end Go.Proofs.YtmmclabkkigiaaaDoor

namespace Go.Proofs.YtmmclabkkigiaaaDoor
open Go Go.RowKit
set_option linter.unusedVariables false

section
variable {img : List Int} {l : List (Int × Int)} {at_ many : Int}

def VI (img : List Int) (l : List (Int × Int)) : Prop := VR img l ∧ l.length ≤ 96
theorem VI.nil (h : ∀ x ∈ img, U64 x) : VI img [] := ⟨VR.nil h, by simp⟩
theorem VI.vput {a x : Int} (h : VI img l) (hx : U64 x) : VI img (vput img l a x).2 := by
  unfold Go.Proofs.YtmmclabkkigiaaaDoor.vput
  split
  · rename_i ha
    cases hl : vlook l a with
    | some y =>
      simp only
      exact ⟨h.1.put ha hx, by rw [vset_length_some (by rw [hl]; rfl)]; exact h.2⟩
    | none =>
      simp only
      split
      · exact h
      · refine ⟨h.1.put ha hx, ?_⟩
        rw [vset_none hl]
        simp
        omega
  · exact h
theorem VI.mset {i_ : Int} {is_ : Bool} (h : VI img l) : VI img (msetF img l at_ many i_ is_).2 := by
  unfold msetF
  split
  · exact h.vput (setb_u64 (h.1 _) (by omega))
  · exact h
def clearF (img : List Int) : List (Int × Int) → List Int → Int × List (Int × Int)
  | l, [] => (0, l)
  | l, n :: ns => if (vput img l n 0).1 = 0 then clearF img (vput img l n 0).2 ns else vput img l n 0
theorem VI.clear : ∀ {ns : List Int} {l : List (Int × Int)}, VI img l → VI img (clearF img l ns).2
  | [], _, h => h
  | n :: ns, l, h => by
    unfold clearF
    split
    · exact VI.clear (h.vput u64_zero)
    · exact h.vput u64_zero
theorem aclear_ok (ns : List Int) (hl : ns.length ≤ 1000000) : aclear_M img l ns = some (clearF img l ns) := by
  unfold aclear_M
  refine iter_run (fun s => 0 ≤ s.2 ∧ s.2 ≤ (ns.length : Int) ∧ clearF img s.1 (ns.drop s.2.toNat) = clearF img l ns) (fun s => ((ns.length : Int) - s.2).toNat) ?_ _ _ ⟨by simp, by simp, rfl⟩ (fuel_lt (by simp only; omega))
  rintro k ⟨m, p⟩ ⟨h1, h2, h3⟩ ih
  simp only at h1 h2 h3 ih
  unfold aclear_B0
  simp only
  by_cases h : p < (ns.length : Int)
  · have hlt : p.toNat < ns.length := by omega
    have e : ns.drop p.toNat = ns.getD p.toNat 0 :: ns.drop (p + 1).toNat := by
      rw [List.drop_eq_getElem_cons hlt, show (p + 1).toNat = p.toNat + 1 by omega]
      simp [hlt]
    rw [e, clearF] at h3
    rw [if_pos h]
    refine need_of ⟨h1, h⟩ (bind_of rfl ?_)
    by_cases h0 : (vput img m (ns.getD p.toNat 0) 0).1 = 0
    · rw [if_pos h0] at h3 ⊢
      exact need_of (by omega) (ih _ ⟨by simp only; omega, by simp only; omega, h3⟩ (by simp only; omega))
    · rw [if_neg h0] at h3 ⊢
      rw [← h3]
  · rw [if_neg h, ← h3, List.drop_of_length_le (by omega)]
    rfl
def ownL (p : Int) : List Int := [p + 0, p + 1, p + 2, p + 3, p + 4, p + 5, p + 6, p + 7]

def takeBF (img : List Int) (l : List (Int × Int)) (gw gi gb at_ : Int) : Int × Int × List (Int × Int) :=
  if (lst (mbits img l at_) gb.toNat).2 = true then
    if (msetF img l at_ gb (lst (mbits img l at_) gb.toNat).1 true).1 = 0 then
      if (clearF img (msetF img l at_ gb (lst (mbits img l at_) gb.toNat).1 true).2 (ownL (placeOf 9 gw gi gb (lst (mbits img l at_) gb.toNat).1))).1 = 0 then
        ((lst (mbits img l at_) gb.toNat).1, 0, (clearF img (msetF img l at_ gb (lst (mbits img l at_) gb.toNat).1 true).2 (ownL (placeOf 9 gw gi gb (lst (mbits img l at_) gb.toNat).1))).2)
      else (0, clearF img (msetF img l at_ gb (lst (mbits img l at_) gb.toNat).1 true).2 (ownL (placeOf 9 gw gi gb (lst (mbits img l at_) gb.toNat).1)))
    else (0, (msetF img l at_ gb (lst (mbits img l at_) gb.toNat).1 true).1, (msetF img l at_ gb (lst (mbits img l at_) gb.toNat).1 true).2)
  else (0, 7, l)
def giveF (img : List Int) (l : List (Int × Int)) (at_ many n_ : Int) : Int × List (Int × Int) :=
  if 1 ≤ n_ ∧ n_ < many then (if mbits img l at_ n_.toNat = true then msetF img l at_ many n_ false else (3, l)) else (1, l)
theorem VI.takeB {gw gi gb : Int} (h : VI img l) : VI img (takeBF img l gw gi gb at_).2.2 := by
  unfold takeBF
  split
  · split
    · split <;> exact VI.clear h.mset
    · exact h.mset
  · exact h
theorem VI.give {n_ : Int} (h : VI img l) : VI img (giveF img l at_ many n_).2 := by
  unfold giveF
  split
  · split
    · exact h.mset
    · exact h
  · exact h
theorem place9 (gw gi gb n : Int) : -1 ≤ placeOf 9 gw gi gb n ∧ placeOf 9 gw gi gb n ≤ 7000 := by
  unfold placeOf
  split
  · rename_i h
    have h_ := may_out h
    simp only
    split <;> omega
  · omega

theorem atakeb_ok {gw gi gb : Int} (hv : VR img l) (ha : 0 ≤ at_ ∧ at_ ≤ 1000000000000) (hm : 1 ≤ gb ∧ gb ≤ 1000000000000) : atakeb_M img l gw gi gb at_ = some (takeBF img l gw gi gb at_) := by
  unfold atakeb_M atake1_M
  have key : ((mclear_M img l at_ gb).bind fun r6 => if r6.2 = true then ((mset_M img l at_ gb r6.1 true).bind fun r15 => if r15.1 = 0 then (atake1_J2 img gw gi gb r6 r15 true) else (atake1_J2 img gw gi gb r6 r15 false)) else (some (0, 7, l))) = some (takeBF img l gw gi gb at_) := by
    refine bind_of (mclear_ok hv ha hm) ?_
    unfold takeBF
    split
    · refine bind_of (mset_ok hv ha hm.2) ?_
      split
      · rename_i h0
        unfold atake1_J2
        rw [if_pos rfl]
        have hp := place9 gw gi gb (lst (mbits img l at_) gb.toNat).1
        refine need_of (by omega) (bind_of (aclear_ok _ (by simp)) ?_)
        unfold atake1_J1
        change (if (clearF _ _ (ownL _)).1 = 0 then _ else _) = _
        split <;> rfl
      · rename_i h0
        unfold atake1_J2
        rw [if_neg (by decide)]
        unfold atake1_J1
        rw [if_neg h0]
    · rfl
  exact bind_of key rfl
theorem agive_ok {n_ : Int} (hv : VR img l) (ha : 0 ≤ at_ ∧ at_ ≤ 1000000000000) (hm : many ≤ 1000000000000) : pgive_M img l at_ many many n_ = some (giveF img l at_ many n_) := by
  have j1f : ∀ h : 1 ≤ n_ ∧ n_ < many, pgive_J1 img l at_ many n_ false = some (giveF img l at_ many n_) := by
    intro h
    unfold pgive_J1 giveF
    rw [if_neg (by decide), if_pos h]
    refine bind_of (mget_ok hv ha hm) ?_
    rw [decide_eq_true (by omega), Bool.true_and]
    split
    · exact bind_of (mset_ok hv ha hm) rfl
    · rfl
  have j1t : ∀ h : ¬ (1 ≤ n_ ∧ n_ < many), pgive_J1 img l at_ many n_ true = some (giveF img l at_ many n_) := by
    intro h
    unfold pgive_J1 giveF
    rw [if_pos rfl, if_neg h]
  unfold pgive_M
  by_cases h1 : n_ < 1
  · rw [if_pos h1, decide_eq_true h1]; exact j1t (by omega)
  · rw [if_neg h1]
    by_cases h2 : n_ ≥ many
    · rw [decide_eq_true h2]; exact j1t (by omega)
    · rw [decide_eq_false h2]; exact j1f (by omega)
def freeF (img : List Int) (l : List (Int × Int)) (gi gb ia ba : Int) : Int × Int := (gi - (cnt (mbits img l ia) gi.toNat : Nat), gb - (cnt (mbits img l ba) gb.toNat : Nat))
theorem afree_ok {gi gb ia ba : Int} (hv : VR img l) (h1 : 0 ≤ ia ∧ ia ≤ 1000000000000) (h2 : 0 ≤ ba ∧ ba ≤ 1000000000000) (h3 : 1 ≤ gi ∧ gi ≤ 1000000000000) (h4 : 1 ≤ gb ∧ gb ≤ 1000000000000) : afree_M img l gi gb ia ba = some (freeF img l gi gb ia ba) := by
  have c1 := cnt_le (mbits img l ia) gi.toNat
  have c2 := cnt_le (mbits img l ba) gb.toNat
  have k1 : pfree_M img l ia gi gi = some (gi - (cnt (mbits img l ia) gi.toNat : Nat)) := by
    unfold pfree_M
    exact bind_of (mcount_ok hv h1 h3) (need_of (by omega) rfl)
  have k2 : pfree_M img l ba gb gb = some (gb - (cnt (mbits img l ba) gb.toNat : Nat)) := by
    unfold pfree_M
    exact bind_of (mcount_ok hv h2 h4) (need_of (by omega) rfl)
  unfold afree_M
  exact bind_of k1 (bind_of k2 rfl)
end
end Go.Proofs.YtmmclabkkigiaaaDoor

namespace Go.Proofs.YtmmclabkkigiaaaDoor
open Go Go.RowKit
set_option linter.unusedVariables false

theorem getD_set {α : Type} {l : List α} {i k : Nat} {x d : α} (hi : i < l.length) : (l.set i x).getD k d = if k = i then x else l.getD k d := by
  rw [List.getD_eq_getElem?_getD, List.getD_eq_getElem?_getD, List.getElem?_set]
  by_cases h : i = k
  · subst h
    rw [if_pos rfl, if_pos rfl, if_pos hi]; rfl
  · rw [if_neg h, if_neg (fun e => h e.symm)]
theorem fmt_get {gw gi gb : Int} (hm : May gw gi gb) {k : Nat} (hk : (k : Int) < wordsOf gw gi gb) :
    (fmtW gw gi gb).getD k 0 = if (k : Int) = 297 + 208 * gw then 1 else if (k : Int) = 296 + 208 * gw then 2 else if (k : Int) = 272 + 208 * gw then 1 else if (k : Int) = 264 + 208 * gw then 3 else
      if k = 3 then gb else if k = 2 then gi else if k = 1 then gw else if k = 0 then 32762617960297063 else 0 := by
  have hm_ := may_out hm
  have hw := words_may hm
  have p6 := place6 hm
  have p7 := place7 hm
  have p8 := place8_in (n := 1) hm (by omega)
  have hl : (List.replicate (wordsOf gw gi gb).toNat (0 : Int)).length = (wordsOf gw gi gb).toNat := List.length_replicate
  unfold fmtW
  rw [if_pos hm, getD_set (by simp only [List.length_set, hl]; omega), getD_set (by simp only [List.length_set, hl]; omega), getD_set (by simp only [List.length_set, hl]; omega), getD_set (by simp only [List.length_set, hl]; omega),
    getD_set (by simp only [List.length_set, hl]; omega), getD_set (by simp only [List.length_set, hl]; omega), getD_set (by simp only [List.length_set, hl]; omega), getD_set (by simp only [hl]; omega)]
  have e0 : (List.replicate (wordsOf gw gi gb).toNat (0 : Int)).getD k 0 = 0 := by
    rw [List.getD_eq_getElem?_getD, List.getElem?_replicate]
    split <;> rfl
  rw [e0, p6, p7, p8]
  have c1 : (k = (280 + 208 * gw + 16 * 1 + 1).toNat) ↔ ((k : Int) = 297 + 208 * gw) := by omega
  have c2 : (k = (280 + 208 * gw + 16 * 1).toNat) ↔ ((k : Int) = 296 + 208 * gw) := by omega
  have c3 : (k = (272 + 208 * gw).toNat) ↔ ((k : Int) = 272 + 208 * gw) := by omega
  have c4 : (k = (264 + 208 * gw).toNat) ↔ ((k : Int) = 264 + 208 * gw) := by omega
  simp only [c1, c2, c3, c4]
theorem fmt_vget {gw gi gb : Int} (hm : May gw gi gb) {k : Int} (hk : 0 ≤ k ∧ k < wordsOf gw gi gb) :
    vget (fmtW gw gi gb) [] k = if k = 297 + 208 * gw then 1 else if k = 296 + 208 * gw then 2 else if k = 272 + 208 * gw then 1 else if k = 264 + 208 * gw then 3 else
      if k = 3 then gb else if k = 2 then gi else if k = 1 then gw else if k = 0 then 32762617960297063 else 0 := by
  obtain ⟨n, rfl⟩ := Int.eq_ofNat_of_zero_le hk.1
  have hl := fmtW_len gw gi gb
  have h := fmt_get hm (k := n) hk.2
  rw [vget_nil (by omega), h]
  have e3 : ((n : Int) = 3) ↔ (n = 3) := by omega
  have e2 : ((n : Int) = 2) ↔ (n = 2) := by omega
  have e1 : ((n : Int) = 1) ↔ (n = 1) := by omega
  have e0 : ((n : Int) = 0) ↔ (n = 0) := by omega
  simp only [e3, e2, e1, e0]
theorem fmt_ibits {gw gi gb : Int} (hm : May gw gi gb) {i : Nat} (hi : i < 64) : mbits (fmtW gw gi gb) [] (264 + 208 * gw) i = decide (i < 2) := by
  have hm_ := may_out hm
  have hw := words_may hm
  unfold mbits
  rw [show i / 64 = 0 by omega, show i % 64 = i by omega, fmt_vget hm (by omega), if_neg (by omega), if_neg (by omega), if_neg (by omega), if_pos (by omega)]
  have h : ∀ j : Fin 64, bitI 3 j.val = decide (j.val < 2) := by decide +kernel
  exact h ⟨i, hi⟩
theorem fmt_bbits {gw gi gb : Int} (hm : May gw gi gb) {i : Nat} (hi : i < 512) : mbits (fmtW gw gi gb) [] (272 + 208 * gw) i = decide (i = 0) := by
  have hm_ := may_out hm
  have hw := words_may hm
  unfold mbits
  by_cases h0 : i / 64 = 0
  · rw [h0, show i % 64 = i by omega, fmt_vget hm (by omega), if_neg (by omega), if_neg (by omega), if_pos (by omega)]
    have h : ∀ j : Fin 64, bitI 1 j.val = decide (j.val = 0) := by decide +kernel
    exact h ⟨i, by omega⟩
  · rw [fmt_vget hm (by omega), if_neg (by omega), if_neg (by omega), if_neg (by omega), if_neg (by omega), if_neg (by omega), if_neg (by omega), if_neg (by omega), if_neg (by omega), bitI_zero, decide_eq_false (by omega)]
theorem cnt_dec (m : Nat) : ∀ n, cnt (fun i => decide (i < m)) n = min m n
  | 0 => by simp [cnt]
  | n + 1 => by
    rw [cnt, cnt_dec m n]
    by_cases h : n < m
    · rw [if_pos (by simpa using h)]; omega
    · rw [if_neg (by simpa using h)]; omega
end Go.Proofs.YtmmclabkkigiaaaDoor

namespace Go.Proofs.YtmmclabkkigiaaaDoor
open Go Go.RowKit
set_option linter.unusedVariables false

theorem mbits_flat {img : List Int} {l : List (Int × Int)} (hok : VOk img l) (at_ : Int) : mbits (vflat img l) [] at_ = mbits img l at_ := by
  funext j
  unfold mbits
  rw [vget_flat hok]
theorem clear_ok {img : List Int} : ∀ {ns : List Int} {l : List (Int × Int)}, VOk img l → VR img l → (∀ n ∈ ns, 0 ≤ n ∧ n < (img.length : Int)) → l.length + ns.length ≤ 96 →
    ∃ l', clearF img l ns = (0, l') ∧ VOk img l' ∧ VR img l' ∧ l'.length ≤ l.length + ns.length ∧ ∀ k, vget img l' k = if k ∈ ns then 0 else vget img l k
  | [], l, hok, hv, _, _ => ⟨l, rfl, hok, hv, by simp, fun k => by simp⟩
  | n :: ns, l, hok, hv, hr, hl => by
    simp only [List.length_cons] at hl
    have hn := hr n (by simp)
    have hlen := vput_len img l n 0
    unfold clearF
    rw [vput_in hn (by omega)] at hlen ⊢
    simp only at hlen ⊢
    obtain ⟨l', h1, h2, h3, h4, h5⟩ := clear_ok (ns := ns) (l := vset l n 0) (hok.put hn (.inr (by omega))) (hv.put hn u64_zero) (fun m hm => hr m (by simp [hm])) (by omega)
    refine ⟨l', by rw [if_pos trivial]; exact h1, h2, h3, by simp only [List.length_cons]; omega, fun k => ?_⟩
    rw [h5, vget_vset hn]
    by_cases e : k = n
    · subst e; simp
    · simp [e]
theorem mem_own {p k : Int} : k ∈ ownL p ↔ p ≤ k ∧ k < p + 8 := by
  unfold ownL
  simp only [List.mem_cons, List.not_mem_nil, or_false]
  omega

structure Gd (gi gb : Int) (ws : List Int) (fi fb : Nat → Bool) : Prop where
  may : May 1 gi gb
  len : (ws.length : Int) = wordsOf 1 gi gb
  u64 : ∀ x ∈ ws, U64 x
  ib : ∀ j, j < gi.toNat → mbits ws [] 472 j = fi j
  bb : ∀ j, j < gb.toNat → mbits ws [] 480 j = fb j
section
variable {gi gb : Int} {ws : List Int} {fi fb : Nat → Bool}
theorem Gd.ok (h : Gd gi gb ws fi fb) : VOk ws [] ∧ VR ws [] ∧ (ws.length : Int) = 488 + 16 * gi + 8 * gb ∧ ws.length ≤ 6232 := by
  have hm_ := may_out h.may
  have hw := words_may h.may
  have hl := h.len
  exact ⟨VOk.nil (by omega), VR.nil h.u64, by omega, by omega⟩
theorem Gd.fmt (hm : May 1 gi gb) : Gd gi gb (fmtW 1 gi gb) (fun j => decide (j < 2)) (fun j => decide (j = 0)) := by
  have hm_ := may_out hm
  have hl := fmtW_len 1 gi gb
  have hw := words_may hm
  exact ⟨hm, by omega, fmtW_u64, fun j hj => fmt_ibits hm (by omega), fun j hj => fmt_bbits hm (by omega)⟩
theorem Gd.flat (h : Gd gi gb ws fi fb) {l : List (Int × Int)} (hok : VOk ws l) (hv : VR ws l) {fi' fb' : Nat → Bool} (h1 : ∀ j, j < gi.toNat → mbits ws l 472 j = fi' j) (h2 : ∀ j, j < gb.toNat → mbits ws l 480 j = fb' j) : Gd gi gb (vflat ws l) fi' fb' :=
  ⟨h.may, by rw [vflat_length]; exact h.len, u64_flat hok hv, fun j hj => by rw [mbits_flat hok]; exact h1 j hj, fun j hj => by rw [mbits_flat hok]; exact h2 j hj⟩
theorem Gd.lstB (h : Gd gi gb ws fi fb) : lst (mbits ws [] 480) gb.toNat = lst fb gb.toNat := by
  rcases lst_cases fb gb.toNat with ⟨i, h1, h2, h3, h4⟩ | ⟨h1, h4⟩
  · rw [h4, lst_at h1 ((h.bb i h1).trans h2) (fun j hj => (h.bb j (by omega)).trans (h3 j hj))]
  · rw [h4, lst_full fun j hj => (h.bb j hj).trans (h1 j hj)]
theorem Gd.setB (h : Gd gi gb ws fi fb) {n : Int} {b : Bool} (hn : 0 ≤ n ∧ n < gb) :
    ∃ l, msetF ws [] 480 gb n b = (0, l) ∧ VOk ws l ∧ VR ws l ∧ l.length ≤ 1 ∧ (∀ k, ¬ (480 ≤ k ∧ k < 488) → vget ws l k = vget ws [] k) ∧ (∀ j, mbits ws l 480 j = if j = n.toNat then b else mbits ws [] 480 j) ∧ (∀ j, j < 64 → mbits ws l 472 j = mbits ws [] 472 j) := by
  obtain ⟨ho, hv, hl, hl2⟩ := h.ok
  have hm_ := may_out h.may
  obtain ⟨l, h1, h2, h3, h4, _, h6, h7⟩ := mset_in (is_ := b) (at_ := 480) (i_ := n) (many := gb) hv ho (by omega) (by omega) (by simp)
  refine ⟨l, h1, h3, h2, by simpa using h4, fun k hk => ?_, h7, fun j hj => ?_⟩
  · rw [h6, if_neg (by omega)]
  · unfold mbits
    rw [h6, if_neg (by omega)]
theorem place9_in {n : Int} (hm : May 1 gi gb) (hn : 0 ≤ n ∧ n < gb) : placeOf 9 1 gi gb n = 488 + 16 * gi + 8 * n := by
  unfold placeOf
  rw [if_pos hm]
  simp only [hn, and_self, if_true]
  omega
theorem Gd.takeB (h : Gd gi gb ws fi fb) :
    (∃ i l, i < gb.toNat ∧ fb i = false ∧ (∀ j, j < i → fb j = true) ∧ takeBF ws [] 1 gi gb 480 = ((i : Int), 0, l) ∧ VOk ws l ∧ VR ws l ∧ l.length ≤ 9 ∧ (∀ k, 488 + 16 * gi + 8 * (i : Int) ≤ k ∧ k < 488 + 16 * gi + 8 * (i : Int) + 8 → vget ws l k = 0) ∧
      (∀ k, ¬ (480 ≤ k ∧ k < 488) → ¬ (488 + 16 * gi + 8 * (i : Int) ≤ k ∧ k < 488 + 16 * gi + 8 * (i : Int) + 8) → vget ws l k = vget ws [] k) ∧ Gd gi gb (vflat ws l) fi (fun j => if j = i then true else fb j)) ∨
    ((∀ j, j < gb.toNat → fb j = true) ∧ takeBF ws [] 1 gi gb 480 = (0, 7, [])) := by
  obtain ⟨ho, hv, hl, hl2⟩ := h.ok
  have hm_ := may_out h.may
  rcases lst_cases fb gb.toNat with ⟨i, h1, h2, h3, h4⟩ | ⟨h1, h4⟩
  · refine .inl ?_
    obtain ⟨l, a1, a2, a3, a4, a5, a6, a7⟩ := h.setB (n := (i : Int)) (b := true) (by omega)
    have hp := place9_in (n := (i : Int)) h.may (by omega)
    obtain ⟨l', c1, c2, c3, c4, c5⟩ := clear_ok (ns := ownL (488 + 16 * gi + 8 * (i : Int))) a2 a3 (fun n hn => by rw [mem_own] at hn; omega) (by rw [show (ownL (488 + 16 * gi + 8 * (i : Int))).length = 8 from rfl]; omega)
    have c5' : ∀ k, vget ws l' k = if 488 + 16 * gi + 8 * (i : Int) ≤ k ∧ k < 488 + 16 * gi + 8 * (i : Int) + 8 then 0 else vget ws l k := fun k => by rw [c5]; simp only [mem_own]
    rw [show (ownL (488 + 16 * gi + 8 * (i : Int))).length = 8 from rfl] at c4
    refine ⟨i, l', h1, h2, h3, ?_, c2, c3, by omega, fun k hk => by rw [c5', if_pos hk], fun k hk1 hk2 => by rw [c5', if_neg hk2, a5 k hk1], ?_⟩
    · unfold takeBF
      rw [h.lstB, h4]
      simp only
      rw [if_pos trivial, a1, if_pos rfl, hp]
      simp only
      rw [c1, if_pos rfl]
    · refine h.flat c2 c3 (fun j hj => ?_) fun j hj => ?_
      · rw [← h.ib j hj, ← a7 j (by omega)]
        unfold mbits
        rw [c5', if_neg (by omega)]
      · rw [← h.bb j hj]
        have e := a6 j
        rw [Int.toNat_natCast] at e
        rw [← e]
        unfold mbits
        rw [c5', if_neg (by omega)]
  · refine .inr ⟨h1, ?_⟩
    unfold takeBF
    rw [h.lstB, h4]
    rfl
theorem Gd.free (h : Gd gi gb ws fi fb) {l : List (Int × Int)} (hok : VOk ws l) {fi' fb' : Nat → Bool} (h' : Gd gi gb (vflat ws l) fi' fb') : freeF ws l gi gb 472 480 = (gi - (cnt fi' gi.toNat : Nat), gb - (cnt fb' gb.toNat : Nat)) := by
  have e1 : cnt (mbits ws l 472) gi.toNat = cnt fi' gi.toNat := cnt_congr fun j hj => by rw [← mbits_flat hok]; exact h'.ib j hj
  have e2 : cnt (mbits ws l 480) gb.toNat = cnt fb' gb.toNat := cnt_congr fun j hj => by rw [← mbits_flat hok]; exact h'.bb j hj
  unfold freeF
  rw [e1, e2]
theorem Gd.congr (h : Gd gi gb ws fi fb) {fi' fb' : Nat → Bool} (h1 : ∀ j, j < gi.toNat → fi j = fi' j) (h2 : ∀ j, j < gb.toNat → fb j = fb' j) : Gd gi gb ws fi' fb' :=
  ⟨h.may, h.len, h.u64, fun j hj => (h.ib j hj).trans (h1 j hj), fun j hj => (h.bb j hj).trans (h2 j hj)⟩
end
end Go.Proofs.YtmmclabkkigiaaaDoor

set_option maxRecDepth 20000
set_option maxHeartbeats 1000000
namespace Go.Proofs.YtmmclabkkigiaaaDoor
open Go Go.RowKit
set_option linter.unusedSimpArgs false
set_option linter.unusedVariables false

theorem max5_spec {ma : Option Addr} {mc : Nat} {a_ b_ c_ d_ e_ : Int} (B : Nat) (w : World) (hm : CellsAt ma (kU64.cells [a_, b_, c_, d_, e_]) w) : Spec Tryd.prog 91 #[(.slice ma 5 mc)] B w [] (fun v H' => v = .int .u64 (mx (mx (mx (mx a_ b_) c_) d_) e_) ∧ H' = []) := by
 refine spec_Q Tryd.func91 rfl fun hs => ?_
 refine W.sr fun K1 hK1 => ?_
 refine zE 1 (hK1 _ _ ?_)
 refine W.seq fun K2 hK2 => ?_
 refine W.sr fun K3 hK3 => ?_
 refine zE 3 (hK3 _ _ ?_)
 refine W.cond_false false (by kernel_rfl) rfl ?_
 refine W.skip ?_
 refine hK2 _ _ ?_
 refine W.sr fun K4 hK4 => ?_
 refine zR 1 ?_
 have hk5 : 0 < 5 := by omega
 refine ops_R (runs_index (a := ma) (n := 5) (z := 0) (size := 1) 0 rfl hk5 (kU64.addr (hs.oldCells hm) hk5) (by kernel_rfl)) ?_
 refine zL ((adr ma (0 * 1)).add 0) (.int .u64 (([a_, b_, c_, d_, e_]).getD 0 0)) (kU64.at (hs.oldCells hm) hk5 0 0 rfl) ?_
 refine zE 1 (hK4 _ _ ?_)
 refine W.seq fun K6 hK6 => ?_
 refine W.sr fun K7 hK7 => ?_
 refine zE 1 (hK7 _ _ ?_)
 refine W.block ?_
 refine W.loop_start ?_
 refine loopAt_round ?_
 refine W.seq fun K8 hK8 => ?_
 refine W.sr fun K9 hK9 => ?_
 refine zE 4 (hK9 _ _ ?_)
 refine W.cond_true true (by kernel_rfl) rfl ?_
 refine W.skip ?_
 refine hK8 _ _ ?_
 refine W.seq fun K10 hK10 => ?_
 refine W.block ?_
 refine W.region ?_
 refine zR 3 ?_
 have hk11 : 1 < 5 := by omega
 refine ops_R (runs_index (a := ma) (n := 5) (z := 1) (size := 1) 1 rfl hk11 (kU64.addr (hs.oldCells hm) hk11) (by kernel_rfl)) ?_
 refine zL ((adr ma (1 * 1)).add 0) (.int .u64 (([a_, b_, c_, d_, e_]).getD 1 0)) (kU64.at (hs.oldCells hm) hk11 0 0 rfl) ?_
 refine zE 2 ?_
 refine normal_block ?_
 refine hK10 _ _ ?_
 refine W.region ?_
 refine zE 3 ?_
 refine loopAt_next ?_
 refine loopAt_round ?_
 refine W.seq fun K12 hK12 => ?_
 refine W.sr fun K13 hK13 => ?_
 refine zE 4 (hK13 _ _ ?_)
 refine W.cond_true true (by kernel_rfl) rfl ?_
 refine W.skip ?_
 refine hK12 _ _ ?_
 refine W.seq fun K14 hK14 => ?_
 refine W.block ?_
 refine W.region ?_
 refine zR 3 ?_
 have hk15 : 2 < 5 := by omega
 refine ops_R (runs_index (a := ma) (n := 5) (z := 2) (size := 1) 2 rfl hk15 (kU64.addr (hs.oldCells hm) hk15) (by kernel_rfl)) ?_
 refine zL ((adr ma (2 * 1)).add 0) (.int .u64 (([a_, b_, c_, d_, e_]).getD 2 0)) (kU64.at (hs.oldCells hm) hk15 0 0 rfl) ?_
 refine zE 2 ?_
 refine normal_block ?_
 refine hK14 _ _ ?_
 refine W.region ?_
 refine zE 3 ?_
 refine loopAt_next ?_
 refine loopAt_round ?_
 refine W.seq fun K16 hK16 => ?_
 refine W.sr fun K17 hK17 => ?_
 refine zE 4 (hK17 _ _ ?_)
 refine W.cond_true true (by kernel_rfl) rfl ?_
 refine W.skip ?_
 refine hK16 _ _ ?_
 refine W.seq fun K18 hK18 => ?_
 refine W.block ?_
 refine W.region ?_
 refine zR 3 ?_
 have hk19 : 3 < 5 := by omega
 refine ops_R (runs_index (a := ma) (n := 5) (z := 3) (size := 1) 3 rfl hk19 (kU64.addr (hs.oldCells hm) hk19) (by kernel_rfl)) ?_
 refine zL ((adr ma (3 * 1)).add 0) (.int .u64 (([a_, b_, c_, d_, e_]).getD 3 0)) (kU64.at (hs.oldCells hm) hk19 0 0 rfl) ?_
 refine zE 2 ?_
 refine normal_block ?_
 refine hK18 _ _ ?_
 refine W.region ?_
 refine zE 3 ?_
 refine loopAt_next ?_
 refine loopAt_round ?_
 refine W.seq fun K20 hK20 => ?_
 refine W.sr fun K21 hK21 => ?_
 refine zE 4 (hK21 _ _ ?_)
 refine W.cond_true true (by kernel_rfl) rfl ?_
 refine W.skip ?_
 refine hK20 _ _ ?_
 refine W.seq fun K22 hK22 => ?_
 refine W.block ?_
 refine W.region ?_
 refine zR 3 ?_
 have hk23 : 4 < 5 := by omega
 refine ops_R (runs_index (a := ma) (n := 5) (z := 4) (size := 1) 4 rfl hk23 (kU64.addr (hs.oldCells hm) hk23) (by kernel_rfl)) ?_
 refine zL ((adr ma (4 * 1)).add 0) (.int .u64 (([a_, b_, c_, d_, e_]).getD 4 0)) (kU64.at (hs.oldCells hm) hk23 0 0 rfl) ?_
 refine zE 2 ?_
 refine normal_block ?_
 refine hK22 _ _ ?_
 refine W.region ?_
 refine zE 3 ?_
 refine loopAt_next ?_
 refine loopAt_round ?_
 refine W.seq fun K24 hK24 => ?_
 refine W.sr fun K25 hK25 => ?_
 refine zE 4 (hK25 _ _ ?_)
 refine W.cond_false false (by kernel_rfl) rfl ?_
 refine W.exit (exit_seq (exit_seq (exit_here ?_)))
 refine hK6 _ _ ?_
 refine W.sr fun K26 hK26 => ?_
 refine zE 2 (hK26 _ _ ?_)
 refine W.ret ?_
 refine ret_of (.int .u64 (mx (mx (mx (mx (([a_, b_, c_, d_, e_]).getD 0 0) (([a_, b_, c_, d_, e_]).getD 1 0)) (([a_, b_, c_, d_, e_]).getD 2 0)) (([a_, b_, c_, d_, e_]).getD 3 0)) (([a_, b_, c_, d_, e_]).getD 4 0))) (by kernel_rfl) ⟨_, ⟨rfl, rfl⟩, hs⟩

theorem right_spec {gw gi gb : Int} {x_ : Nd} (B : Nat) (w : World) : Spec Tryd.prog 76 #[(.agg #[(.int .i64 gw), (.int .i64 gi), (.int .i64 gb)]), (.agg #[(.int .u64 x_.k), (.int .u64 x_.l), (.int .u64 x_.o), (.int .u64 x_.s), (.int .u64 x_.a), (.int .u64 x_.b), (.int .u64 x_.c), (.int .u64 x_.d), (.int .u64 x_.e), (.int .u64 x_.m)])] B w [] (fun v H' => v = .bool (decide (RightP gw gi gb x_)) ∧ H' = []) := by
 refine spec_Q Tryd.func76 rfl fun hs => ?_
 refine W.sr fun K1 hK1 => ?_
 refine zN [(.int .i64 gw), (.int .i64 gi), (.int .i64 gb)] 23 hs fun b4 w2 hs3 => ?_
 refine zN [(.int .u64 x_.k), (.int .u64 x_.l), (.int .u64 x_.o), (.int .u64 x_.s), (.int .u64 x_.a), (.int .u64 x_.b), (.int .u64 x_.c), (.int .u64 x_.d), (.int .u64 x_.e), (.int .u64 x_.m)] 78 hs3 fun b7 w5 hs6 => ?_
 refine zE 1 (hK1 _ _ ?_)
 refine W.seq fun K8 hK8 => ?_
 refine W.sr fun K9 hK9 => ?_
 refine ops_R (runs_loadAgg (ad := ⟨b4, 0, none⟩) (cs := [(.int .i64 gw), (.int .i64 gi), (.int .i64 gb)]) (by kernel_rfl) (cells_sub (hs6.heapAt 1 rfl) rfl)) ?_
 refine zC00 hs6 (may_spec (gw := gw) (gi := gi) (gb := gb) B _) fun w10 hs12 => ?_
 refine zR 2 ?_
 rcases Bool.eq_false_or_eq_true (!(decide (May gw gi gb))) with h13 | h13
 ·
  have h13p : ¬ (May gw gi gb) := of_decide_eq_false (bnot_true h13)
  refine zS 9 h13 ?_
  refine zS 8 h13 ?_
  refine zE 4 (hK9 _ _ ?_)
  refine W.cond_true true (by kernel_rfl) rfl ?_
  refine W.sr fun K14 hK14 => ?_
  refine zE 1 (hK14 _ _ ?_)
  refine W.ret (ret_seq ?_)
  have hs15 := St.tk0 hs12
  refine ret_of (.bool false) (by kernel_rfl) ⟨_, ⟨congrArg Value.bool (decide_eq_false (by first | (intro q; exact absurd q.1 (by assumption)) | ((try simp only [mx_lt, le_mx, ge_iff_le, Int.not_le] at *); simp only [RightP]; omega))).symm, rfl⟩, hs15⟩
 ·
  have h13p : May gw gi gb := of_decide_eq_true (bnot_false h13)
  have hm : May gw gi gb := h13p
  have hm_ : (1 ≤ gw ∧ gw ≤ 4) ∧ (2 ≤ gi ∧ gi ≤ 64) ∧ (2 ≤ gb ∧ gb ≤ 512) := hm
  refine zS 9 h13 ?_
  refine zS 8 h13 ?_
  refine ops_R (runs_loadAgg (ad := ⟨b7, 0, none⟩) (cs := [(.int .u64 x_.k), (.int .u64 x_.l), (.int .u64 x_.o), (.int .u64 x_.s), (.int .u64 x_.a), (.int .u64 x_.b), (.int .u64 x_.c), (.int .u64 x_.d), (.int .u64 x_.e), (.int .u64 x_.m)]) (by kernel_rfl) (cells_sub (hs12.heapAt 0 rfl) rfl)) ?_
  refine zR 1 ?_
  refine ops_R (v := (.bool ((decide (x_.k = 0)) && ((decide (x_.l = 0)) && ((decide (x_.o = 0)) && ((decide (x_.s = 0)) && (((decide (x_.a = 0)) && ((decide (x_.b = 0)) && ((decide (x_.c = 0)) && ((decide (x_.d = 0)) && true)))) && ((decide (x_.e = 0)) && ((decide (x_.m = 0)) && true))))))))) (runs_eq (b := ((decide (x_.k = 0)) && ((decide (x_.l = 0)) && ((decide (x_.o = 0)) && ((decide (x_.s = 0)) && (((decide (x_.a = 0)) && ((decide (x_.b = 0)) && ((decide (x_.c = 0)) && ((decide (x_.d = 0)) && true)))) && ((decide (x_.e = 0)) && ((decide (x_.m = 0)) && true)))))))) (by kernel_rfl)) ?_
  refine zE 1 (hK9 _ _ ?_)
  refine W.cond ((decide (x_.k = 0)) && ((decide (x_.l = 0)) && ((decide (x_.o = 0)) && ((decide (x_.s = 0)) && (((decide (x_.a = 0)) && ((decide (x_.b = 0)) && ((decide (x_.c = 0)) && ((decide (x_.d = 0)) && true)))) && ((decide (x_.e = 0)) && ((decide (x_.m = 0)) && true))))))) (by kernel_rfl) (fun h16 => ?_) (fun h16 => ?_)
  ·
   have h16p : x_.k = 0 ∧ x_.l = 0 ∧ x_.o = 0 ∧ x_.s = 0 ∧ (x_.a = 0 ∧ x_.b = 0 ∧ x_.c = 0 ∧ x_.d = 0) ∧ x_.e = 0 ∧ x_.m = 0 := by simpa using h16
   refine W.sr fun K17 hK17 => ?_
   refine zE 1 (hK17 _ _ ?_)
   refine W.ret (ret_seq ?_)
   have hs18 := St.tk0 hs12
   refine ret_of (.bool false) (by kernel_rfl) ⟨_, ⟨congrArg Value.bool (decide_eq_false (by first | (intro q; exact absurd q.1 (by assumption)) | ((try simp only [mx_lt, le_mx, ge_iff_le, Int.not_le] at *); simp only [RightP]; omega))).symm, rfl⟩, hs18⟩
  ·
   have h16p : ¬ (x_.k = 0 ∧ x_.l = 0 ∧ x_.o = 0 ∧ x_.s = 0 ∧ (x_.a = 0 ∧ x_.b = 0 ∧ x_.c = 0 ∧ x_.d = 0) ∧ x_.e = 0 ∧ x_.m = 0) := by simpa using h16
   refine W.skip ?_
   refine hK8 _ _ ?_
   refine W.seq fun K19 hK19 => ?_
   have hs20 := hs12.drew
   refine W.regionD [(0, 0), (1, 1), (0, 0), (4, 4), (8, 8), (18, 18), (63, 32)] (fun w_ => St B w [] w_ [blk b7 (.cells [(.int .u64 x_.k), (.int .u64 x_.l), (.int .u64 x_.o), (.int .u64 x_.s), (.int .u64 x_.a), (.int .u64 x_.b), (.int .u64 x_.c), (.int .u64 x_.d), (.int .u64 x_.e), (.int .u64 x_.m)].toArray 78 (0, 0)), blk b4 (.cells [(.int .i64 gw), (.int .i64 gi), (.int .i64 gb)].toArray 23 (0, 0))]) (by kernel_rfl) hs20 ?_
   refine any_val (v := (.pointer (some ⟨b7, 4, none⟩))) (v' := (.pointer (some ⟨b7, 4, none⟩))) 0 (by kernel_rfl) (fun _ => by kernel_rfl) rfl hs20 ?_
   refine any_val (v := (.slice (some ⟨b7, 4, none⟩) 4 4)) (v' := (.slice (some ⟨b7, 4, none⟩) 4 4)) 1 (by kernel_rfl) (fun _ => by kernel_rfl) rfl hs20 ?_
   refine any_val (v := (.pointer (some ⟨b7, 8, none⟩))) (v' := (.pointer (some ⟨b7, 8, none⟩))) 2 (by kernel_rfl) (fun _ => by kernel_rfl) rfl hs20 ?_
   refine any_R 3 (by kernel_rfl) (fun _ hS_ => runs_load (ad := ⟨b7, 8, none⟩) (v := (.int .u64 x_.e)) (by kernel_rfl) (hS_.cellAt 0 rfl rfl)) hs20 ?_
   refine any_step 4 (by kernel_rfl) (by kernel_rfl) ?_
   refine ops_new (fun b => .slice (some ⟨b, 0, none⟩) 1 1) (.cells [(.int .u64 x_.e)].toArray 43 (0, 0)) hs20 (by kernel_rfl) (fun b23 w21 hs22 => ?_)
   have hs24 := St.f2 hs22
   have hs25 := St.f2 hs24
   have hs26 := St.tk2 hs25
   refine ops_done (by kernel_rfl) ⟨hs26, ?_⟩
   refine any_step 5 (by kernel_rfl) (by kernel_rfl) ?_
   refine ops_appendGrow (e := kU64.e) (size := 1) (bytes := 8) (n := 4) (c := 4) (m := 1) (c' := 1) (olds := [(.int .u64 x_.a), (.int .u64 x_.b), (.int .u64 x_.c), (.int .u64 x_.d)]) (news := [(.int .u64 x_.e)]) hs22 (by kernel_rfl) rfl (cells_sub (off := 4) (hs22.heapAt 1 rfl) rfl) rfl (cells_sub (off := 0) (hs22.heapAt 0 rfl) rfl) (by decide) (by decide) (by decide) (fun a27 c28 w29 hs30 => ?_)
   have hs31 : St B w [] w29 [kU64.row a27 c28 ([x_.a, x_.b, x_.c, x_.d, x_.e]), blk b23 (.cells [(.int .u64 x_.e)].toArray 43 (0, 0)), blk b7 (.cells [(.int .u64 x_.k), (.int .u64 x_.l), (.int .u64 x_.o), (.int .u64 x_.s), (.int .u64 x_.a), (.int .u64 x_.b), (.int .u64 x_.c), (.int .u64 x_.d), (.int .u64 x_.e), (.int .u64 x_.m)].toArray 78 (0, 0)), blk b4 (.cells [(.int .i64 gw), (.int .i64 gi), (.int .i64 gb)].toArray 23 (0, 0))] := hs30
   have hs32 := St.f3 hs31
   have hs33 := St.f3 hs32
   have hs34 := St.tk2 hs33
   refine ops_done (by kernel_rfl) ⟨hs34, ?_⟩
   refine any_val (v := (.slice a27 5 c28)) (v' := (.slice a27 5 c28)) 6 (by kernel_rfl) (fun _ => by kernel_rfl) rfl hs34 ?_
   refine any_done (by kernel_rfl) ?_
   refine hK19 _ _ ?_
   refine W.seq fun K35 hK35 => ?_
   refine W.seq fun K36 hK36 => ?_
   have hs37 := hs31.drew
   refine W.regionD [(0, 0), (1, 1), (0, 0), (4, 4), (8, 8), (18, 18), (34, 32), (64, 64), (192, 192), (64, 64), (576, 576), (1088, 1088), (2368, 2368), (4160, 4160)] (fun w_ => St B w [] w_ [kU64.row a27 c28 ([x_.a, x_.b, x_.c, x_.d, x_.e]), blk b23 (.cells [(.int .u64 x_.e)].toArray 43 (0, 0)), blk b7 (.cells [(.int .u64 x_.k), (.int .u64 x_.l), (.int .u64 x_.o), (.int .u64 x_.s), (.int .u64 x_.a), (.int .u64 x_.b), (.int .u64 x_.c), (.int .u64 x_.d), (.int .u64 x_.e), (.int .u64 x_.m)].toArray 78 (0, 0)), blk b4 (.cells [(.int .i64 gw), (.int .i64 gi), (.int .i64 gb)].toArray 23 (0, 0))]) (by kernel_rfl) hs37 ?_
   refine any_val (v := (.slice a27 5 c28)) (v' := (.slice a27 5 c28)) 0 (by kernel_rfl) (fun _ => by kernel_rfl) rfl hs37 ?_
   refine any_val (v := (.pointer (some ⟨b4, 2, none⟩))) (v' := (.pointer (some ⟨b4, 2, none⟩))) 2 (by kernel_rfl) (fun _ => by kernel_rfl) rfl hs37 ?_
   refine any_R 3 (by kernel_rfl) (fun _ hS_ => runs_load (ad := ⟨b4, 2, none⟩) (v := (.int .i64 gb)) (by kernel_rfl) (hS_.cellAt 3 rfl rfl)) hs37 ?_
   refine any_val (v := .int .u64 (IntKind.u64.wrap gb)) (v' := .int .u64 gb) 4 (by kernel_rfl) (fun _ => by kernel_rfl) (congrArg (Value.int .u64) (wrap_u64 (by omega) (by omega))) hs37 ?_
   refine any_step 1 (by kernel_rfl) (by kernel_rfl) ?_
   refine zC00 hs37 (max5_spec (mc := c28) (a_ := x_.a) (b_ := x_.b) (c_ := x_.c) (d_ := x_.d) (e_ := x_.e) (hm := (St.kcells kU64 hs37 0 rfl)) B _) fun w38 hs40 => ?_
   refine ops_done (by kernel_rfl) ⟨hs40, ?_⟩
   refine any_val (v := (.bool (decide ((mx (mx (mx (mx x_.a x_.b) x_.c) x_.d) x_.e) ≥ gb)))) (v' := (.bool (decide ((mx (mx (mx (mx x_.a x_.b) x_.c) x_.d) x_.e) ≥ gb)))) 5 (by kernel_rfl) (fun _ => by kernel_rfl) rfl hs40 ?_
   refine any_val (v := (.bool (decide ((mx (mx (mx (mx x_.a x_.b) x_.c) x_.d) x_.e) ≥ gb)))) (v' := (.bool (decide ((mx (mx (mx (mx x_.a x_.b) x_.c) x_.d) x_.e) ≥ gb)))) 6 (by kernel_rfl) (fun _ => by kernel_rfl) rfl hs40 ?_
   rcases Bool.eq_false_or_eq_true (decide ((mx (mx (mx (mx x_.a x_.b) x_.c) x_.d) x_.e) ≥ gb)) with h41 | h41
   ·
    have h41p := of_decide_eq_true h41
    refine any_set 25 (v := .bool true) (eq_bool_of (by kernel_rfl) h41) ?_
    refine any_set 26 (v := .bool true) (eq_bool_of (by kernel_rfl) h41) ?_
    refine any_skip 7 (by kernel_rfl) (by kernel_rfl) hs40 ?_
    refine any_skip 8 (by kernel_rfl) (by kernel_rfl) hs40 ?_
    refine any_skip 9 (by kernel_rfl) (by kernel_rfl) hs40 ?_
    refine any_skip 10 (by kernel_rfl) (by kernel_rfl) hs40 ?_
    refine any_skip 11 (by kernel_rfl) (by kernel_rfl) hs40 ?_
    refine any_skip 12 (by kernel_rfl) (by kernel_rfl) hs40 ?_
    refine any_val (v := (.bool true)) (v' := (.bool true)) 13 (by kernel_rfl) (fun _ => by kernel_rfl) rfl hs40 ?_
    refine any_done (by kernel_rfl) ?_
    refine hK36 _ _ ?_
    refine W.cond_true true (by kernel_rfl) rfl ?_
    refine W.sr fun K42 hK42 => ?_
    refine zE 1 (hK42 _ _ ?_)
    refine W.ret (ret_seq ?_)
    have hs43 := St.tk0 hs40
    refine ret_of (.bool false) (by kernel_rfl) ⟨_, ⟨congrArg Value.bool (decide_eq_false (by first | (intro q; exact absurd q.1 (by assumption)) | ((try simp only [mx_lt, le_mx, ge_iff_le, Int.not_le] at *); simp only [RightP]; omega))).symm, rfl⟩, hs43⟩
   ·
    have h41p := of_decide_eq_false h41
    refine any_set 25 (v := .bool false) (eq_bool_of (by kernel_rfl) h41) ?_
    refine any_set 26 (v := .bool false) (eq_bool_of (by kernel_rfl) h41) ?_
    refine any_val (v := (.pointer (some ⟨b7, 9, none⟩))) (v' := (.pointer (some ⟨b7, 9, none⟩))) 7 (by kernel_rfl) (fun _ => by kernel_rfl) rfl hs40 ?_
    refine any_R 8 (by kernel_rfl) (fun _ hS_ => runs_load (ad := ⟨b7, 9, none⟩) (v := (.int .u64 x_.m)) (by kernel_rfl) (hS_.cellAt 2 rfl rfl)) hs40 ?_
    refine any_val (v := (.pointer (some ⟨b4, 1, none⟩))) (v' := (.pointer (some ⟨b4, 1, none⟩))) 9 (by kernel_rfl) (fun _ => by kernel_rfl) rfl hs40 ?_
    refine any_R 10 (by kernel_rfl) (fun _ hS_ => runs_load (ad := ⟨b4, 1, none⟩) (v := (.int .i64 gi)) (by kernel_rfl) (hS_.cellAt 3 rfl rfl)) hs40 ?_
    refine any_val (v := .int .u64 (IntKind.u64.wrap gi)) (v' := .int .u64 gi) 11 (by kernel_rfl) (fun _ => by kernel_rfl) (congrArg (Value.int .u64) (wrap_u64 (by omega) (by omega))) hs40 ?_
    refine any_val (v := (.bool (decide (x_.m ≥ gi)))) (v' := (.bool (decide (x_.m ≥ gi)))) 12 (by kernel_rfl) (fun _ => by kernel_rfl) rfl hs40 ?_
    refine any_val (v := (.bool (decide (x_.m ≥ gi)))) (v' := (.bool (decide (x_.m ≥ gi)))) 13 (by kernel_rfl) (fun _ => by kernel_rfl) rfl hs40 ?_
    refine any_done (by kernel_rfl) ?_
    refine hK36 _ _ ?_
    refine W.cond (decide (x_.m ≥ gi)) (by kernel_rfl) (fun h44 => ?_) (fun h44 => ?_)
    ·
     have h44p := of_decide_eq_true h44
     refine W.sr fun K45 hK45 => ?_
     refine zE 1 (hK45 _ _ ?_)
     refine W.ret (ret_seq ?_)
     have hs46 := St.tk0 hs40
     refine ret_of (.bool false) (by kernel_rfl) ⟨_, ⟨congrArg Value.bool (decide_eq_false (by first | (intro q; exact absurd q.1 (by assumption)) | ((try simp only [mx_lt, le_mx, ge_iff_le, Int.not_le] at *); simp only [RightP]; omega))).symm, rfl⟩, hs46⟩
    ·
     have h44p := of_decide_eq_false h44
     refine W.skip ?_
     refine hK35 _ _ ?_
     refine W.seq fun K47 hK47 => ?_
     refine W.sr fun K48 hK48 => ?_
     refine zR 1 ?_
     refine zL ⟨b7, 1, none⟩ (.int .u64 x_.l) (hs40.cellAt 2 rfl rfl) ?_
     refine zR 2 ?_
     rcases Bool.eq_false_or_eq_true (decide (x_.l > 65536)) with h49 | h49
     ·
      have h49p := of_decide_eq_true h49
      refine zS 37 h49 ?_
      refine zS 36 h49 ?_
      refine zE 9 (hK48 _ _ ?_)
      refine W.cond_true true (by kernel_rfl) rfl ?_
      refine W.sr fun K50 hK50 => ?_
      refine zE 1 (hK50 _ _ ?_)
      refine W.ret (ret_seq ?_)
      have hs51 := St.tk0 hs40
      refine ret_of (.bool false) (by kernel_rfl) ⟨_, ⟨congrArg Value.bool (decide_eq_false (by first | (intro q; exact absurd q.1 (by assumption)) | ((try simp only [mx_lt, le_mx, ge_iff_le, Int.not_le] at *); simp only [RightP]; omega))).symm, rfl⟩, hs51⟩
     ·
      have h49p := of_decide_eq_false h49
      refine zS 37 h49 ?_
      refine zS 36 h49 ?_
      refine zR 1 ?_
      refine zL ⟨b7, 2, none⟩ (.int .u64 x_.o) (hs40.cellAt 2 rfl rfl) ?_
      refine zR 3 ?_
      rcases Bool.eq_false_or_eq_true (decide (x_.o > 16)) with h52 | h52
      ·
       have h52p := of_decide_eq_true h52
       refine zS 42 h52 ?_
       refine zS 40 h52 ?_
       refine zS 41 h52 ?_
       refine zE 4 (hK48 _ _ ?_)
       refine W.cond_true true (by kernel_rfl) rfl ?_
       refine W.sr fun K53 hK53 => ?_
       refine zE 1 (hK53 _ _ ?_)
       refine W.ret (ret_seq ?_)
       have hs54 := St.tk0 hs40
       refine ret_of (.bool false) (by kernel_rfl) ⟨_, ⟨congrArg Value.bool (decide_eq_false (by first | (intro q; exact absurd q.1 (by assumption)) | ((try simp only [mx_lt, le_mx, ge_iff_le, Int.not_le] at *); simp only [RightP]; omega))).symm, rfl⟩, hs54⟩
      ·
       have h52p := of_decide_eq_false h52
       refine zS 42 h52 ?_
       refine zS 40 h52 ?_
       refine zS 41 h52 ?_
       refine zR 1 ?_
       refine zL ⟨b7, 3, none⟩ (.int .u64 x_.s) (hs40.cellAt 2 rfl rfl) ?_
       refine zE 2 (hK48 _ _ ?_)
       refine W.cond (decide (x_.s > 768)) (by kernel_rfl) (fun h55 => ?_) (fun h55 => ?_)
       ·
        have h55p := of_decide_eq_true h55
        refine W.sr fun K56 hK56 => ?_
        refine zE 1 (hK56 _ _ ?_)
        refine W.ret (ret_seq ?_)
        have hs57 := St.tk0 hs40
        refine ret_of (.bool false) (by kernel_rfl) ⟨_, ⟨congrArg Value.bool (decide_eq_false (by first | (intro q; exact absurd q.1 (by assumption)) | ((try simp only [mx_lt, le_mx, ge_iff_le, Int.not_le] at *); simp only [RightP]; omega))).symm, rfl⟩, hs57⟩
       ·
        have h55p := of_decide_eq_false h55
        refine W.skip ?_
        refine hK47 _ _ ?_
        refine W.seq fun K58 hK58 => ?_
        refine W.sr fun K59 hK59 => ?_
        refine zR 1 ?_
        refine zL ⟨b7, 0, none⟩ (.int .u64 x_.k) (hs40.cellAt 2 rfl rfl) ?_
        refine zD (hK59 _ _ ?_)
        refine W.block ?_
        refine W.sr fun K60 hK60 => ?_
        refine zE 2 (hK60 _ _ ?_)
        refine W.cond (decide (x_.k = 1)) (by kernel_rfl) (fun h61 => ?_) (fun h61 => ?_)
        ·
         have h61p := of_decide_eq_true h61
         refine W.sr fun K62 hK62 => ?_
         refine zR 1 ?_
         refine zL ⟨b7, 9, none⟩ (.int .u64 x_.m) (hs40.cellAt 2 rfl rfl) ?_
         refine zE 2 (hK62 _ _ ?_)
         refine W.ret (ret_block (ret_seq ?_))
         have hs63 := St.tk0 hs40
         refine ret_of (.bool (decide (x_.m = 0))) (by kernel_rfl) ⟨_, ⟨congrArg Value.bool (decide_eq_decide.2 (by (try simp only [mx_lt, le_mx, ge_iff_le, Int.not_le] at *); simp only [RightP, hm, true_and]; omega)), rfl⟩, hs63⟩
        ·
         have h61p := of_decide_eq_false h61
         refine W.sr fun K64 hK64 => ?_
         refine zE 2 (hK64 _ _ ?_)
         refine W.cond (decide (x_.k = 2)) (by kernel_rfl) (fun h65 => ?_) (fun h65 => ?_)
         ·
          have h65p := of_decide_eq_true h65
          refine W.sr fun K66 hK66 => ?_
          refine zR 1 ?_
          refine zL ⟨b7, 3, none⟩ (.int .u64 x_.s) (hs40.cellAt 2 rfl rfl) ?_
          refine zE 2 (hK66 _ _ ?_)
          refine W.ret (ret_block (ret_seq ?_))
          have hs67 := St.tk0 hs40
          refine ret_of (.bool (decide (x_.s = 0))) (by kernel_rfl) ⟨_, ⟨congrArg Value.bool (decide_eq_decide.2 (by (try simp only [mx_lt, le_mx, ge_iff_le, Int.not_le] at *); simp only [RightP, hm, true_and]; omega)), rfl⟩, hs67⟩
         ·
          have h65p := of_decide_eq_false h65
          refine W.skip ?_
          refine normal_block ?_
          refine hK58 _ _ ?_
          refine W.sr fun K68 hK68 => ?_
          refine zE 1 (hK68 _ _ ?_)
          refine W.ret ?_
          have hs69 := St.tk0 hs40
          refine ret_of (.bool false) (by kernel_rfl) ⟨_, ⟨congrArg Value.bool (decide_eq_false (by first | (intro q; exact absurd q.1 (by assumption)) | ((try simp only [mx_lt, le_mx, ge_iff_le, Int.not_le] at *); simp only [RightP]; omega))).symm, rfl⟩, hs69⟩

end Go.Proofs.YtmmclabkkigiaaaDoor

set_option maxRecDepth 20000
namespace Go.Proofs.YtmmclabkkigiaaaDoor
open Go Go.RowKit
set_option linter.unusedSimpArgs false
set_option linter.unusedVariables false


theorem sset_spec {b : Nat} {img : List Int} {l : List (Int × Int)} {at_ x_ : Int} (B : Nat) (w : World) : Spec Tryd.prog 71 #[(.pointer (some ⟨b, 0, none⟩)), (.int .i64 at_), (.int .u64 x_)] B w [viewA (ptr b) img l] (fun v H' => v = .int .i64 (vwrite img l at_ x_).1 ∧ H' = [viewA (ptr b) img (vwrite img l at_ x_).2]) := by
 refine spec_W Tryd.func71 rfl fun l0 hs => ?_
 refine W.sr fun K1 hK1 => ?_
 refine zE 1 (hK1 _ _ ?_)
 refine W.seq fun K2 hK2 => ?_
 refine W.block ?_
 refine W.sr fun K3 hK3 => ?_
 refine zE 3 (hK3 _ _ ?_)
 refine W.cond_false false (by kernel_rfl) rfl ?_
 refine W.seq fun K4 hK4 => ?_
 refine W.sr fun K5 hK5 => ?_
 refine zE 3 (hK5 _ _ ?_)
 refine W.cond (decide (at_ < 0)) (by kernel_rfl) (fun h6 => ?_) (fun h6 => ?_)
 ·
  have h6p := of_decide_eq_true h6
  refine W.skip ?_
  refine hK4 _ _ ?_
  refine W.cond (decide (at_ < 0)) (by kernel_rfl) (fun h7 => ?_) (fun h7 => ?_)
  ·
   have h7p := of_decide_eq_true h7
   refine W.sr fun K8 hK8 => ?_
   refine zE 1 (hK8 _ _ ?_)
   refine W.ret (ret_block (ret_seq ?_))
   have e1_ : (vwrite img l at_ x_).1 = 8 := by first | (exfalso; omega) | (simp only [vwrite]; rw [if_pos (by omega)]) | (simp only [vwrite]; rw [if_neg (by omega), if_pos (by assumption)]) | (simp only [vwrite]; rw [if_neg (by omega), if_neg (by assumption)])
   have e2_ : (vwrite img l at_ x_).2 = l := by first | (exfalso; omega) | (simp only [vwrite]; rw [if_pos (by omega)]) | (simp only [vwrite]; rw [if_neg (by omega), if_pos (by assumption)]) | (simp only [vwrite]; rw [if_neg (by omega), if_neg (by assumption)])
   refine ret_of (.int .i64 8) (by kernel_rfl) ⟨_, ⟨by rw [e1_], by rw [e2_]⟩, hs⟩
  ·
   have h7p := of_decide_eq_false h7
   refine W.sr fun K9 hK9 => ?_
   refine zR 2 ?_
   refine zC00 hs (get_spec (at_ := at_) (hv := (hs.entAt 0 rfl viewA_at)) B _) fun w10 hs12 => ?_
   refine zE 3 (hK9 _ _ ?_)
   refine W.cond (decide ((vget img l at_) = x_)) (by kernel_rfl) (fun h13 => ?_) (fun h13 => ?_)
   ·
    have h13p := of_decide_eq_true h13
    refine W.sr fun K14 hK14 => ?_
    refine zE 1 (hK14 _ _ ?_)
    refine W.ret (ret_block (ret_seq ?_))
    have e1_ : (vwrite img l at_ x_).1 = 0 := by first | (exfalso; omega) | (simp only [vwrite]; rw [if_pos (by omega)]) | (simp only [vwrite]; rw [if_neg (by omega), if_pos (by assumption)]) | (simp only [vwrite]; rw [if_neg (by omega), if_neg (by assumption)])
    have e2_ : (vwrite img l at_ x_).2 = l := by first | (exfalso; omega) | (simp only [vwrite]; rw [if_pos (by omega)]) | (simp only [vwrite]; rw [if_neg (by omega), if_pos (by assumption)]) | (simp only [vwrite]; rw [if_neg (by omega), if_neg (by assumption)])
    refine ret_of (.int .i64 0) (by kernel_rfl) ⟨_, ⟨by rw [e1_], by rw [e2_]⟩, hs12⟩
   ·
    have h13p := of_decide_eq_false h13
    refine W.skip ?_
    refine normal_block ?_
    refine hK2 _ _ ?_
    refine W.sr fun K15 hK15 => ?_
    refine zR 3 ?_
    refine zC11 hs12 (put_spec (p := (.pointer (some ⟨b, 0, none⟩))) (img := img) (l := l) (at_ := at_) (x_ := x_) B _) fun w16 hs18 => ?_
    refine zE 1 (hK15 _ _ ?_)
    refine W.ret ?_
    have e1_ : (vwrite img l at_ x_).1 = (vput img l at_ x_).1 := by first | (exfalso; omega) | (simp only [vwrite]; rw [if_pos (by omega)]) | (simp only [vwrite]; rw [if_neg (by omega), if_pos (by assumption)]) | (simp only [vwrite]; rw [if_neg (by omega), if_neg (by assumption)])
    have e2_ : (vwrite img l at_ x_).2 = (vput img l at_ x_).2 := by first | (exfalso; omega) | (simp only [vwrite]; rw [if_pos (by omega)]) | (simp only [vwrite]; rw [if_neg (by omega), if_pos (by assumption)]) | (simp only [vwrite]; rw [if_neg (by omega), if_neg (by assumption)])
    refine ret_of (.int .i64 ((vput img l at_ x_).1)) (by kernel_rfl) ⟨_, ⟨by rw [e1_], by rw [e2_]⟩, hs18⟩
 ·
  have h6p := of_decide_eq_false h6
  refine W.region ?_
  refine zR 2 ?_
  refine zC00 hs (len_spec (hv := (hs.entAt 0 rfl viewA_at)) B _) fun w19 hs21 => ?_
  refine zE 2 (hK4 _ _ ?_)
  refine W.cond (decide (at_ ≥ (img.length : Int))) (by kernel_rfl) (fun h22 => ?_) (fun h22 => ?_)
  ·
   have h22p := of_decide_eq_true h22
   refine W.sr fun K23 hK23 => ?_
   refine zE 1 (hK23 _ _ ?_)
   refine W.ret (ret_block (ret_seq ?_))
   have e1_ : (vwrite img l at_ x_).1 = 8 := by first | (exfalso; omega) | (simp only [vwrite]; rw [if_pos (by omega)]) | (simp only [vwrite]; rw [if_neg (by omega), if_pos (by assumption)]) | (simp only [vwrite]; rw [if_neg (by omega), if_neg (by assumption)])
   have e2_ : (vwrite img l at_ x_).2 = l := by first | (exfalso; omega) | (simp only [vwrite]; rw [if_pos (by omega)]) | (simp only [vwrite]; rw [if_neg (by omega), if_pos (by assumption)]) | (simp only [vwrite]; rw [if_neg (by omega), if_neg (by assumption)])
   refine ret_of (.int .i64 8) (by kernel_rfl) ⟨_, ⟨by rw [e1_], by rw [e2_]⟩, hs21⟩
  ·
   have h22p := of_decide_eq_false h22
   refine W.sr fun K24 hK24 => ?_
   refine zR 2 ?_
   refine zC00 hs21 (get_spec (at_ := at_) (hv := (hs21.entAt 0 rfl viewA_at)) B _) fun w25 hs27 => ?_
   refine zE 3 (hK24 _ _ ?_)
   refine W.cond (decide ((vget img l at_) = x_)) (by kernel_rfl) (fun h28 => ?_) (fun h28 => ?_)
   ·
    have h28p := of_decide_eq_true h28
    refine W.sr fun K29 hK29 => ?_
    refine zE 1 (hK29 _ _ ?_)
    refine W.ret (ret_block (ret_seq ?_))
    have e1_ : (vwrite img l at_ x_).1 = 0 := by first | (exfalso; omega) | (simp only [vwrite]; rw [if_pos (by omega)]) | (simp only [vwrite]; rw [if_neg (by omega), if_pos (by assumption)]) | (simp only [vwrite]; rw [if_neg (by omega), if_neg (by assumption)])
    have e2_ : (vwrite img l at_ x_).2 = l := by first | (exfalso; omega) | (simp only [vwrite]; rw [if_pos (by omega)]) | (simp only [vwrite]; rw [if_neg (by omega), if_pos (by assumption)]) | (simp only [vwrite]; rw [if_neg (by omega), if_neg (by assumption)])
    refine ret_of (.int .i64 0) (by kernel_rfl) ⟨_, ⟨by rw [e1_], by rw [e2_]⟩, hs27⟩
   ·
    have h28p := of_decide_eq_false h28
    refine W.skip ?_
    refine normal_block ?_
    refine hK2 _ _ ?_
    refine W.sr fun K30 hK30 => ?_
    refine zR 3 ?_
    refine zC11 hs27 (put_spec (p := (.pointer (some ⟨b, 0, none⟩))) (img := img) (l := l) (at_ := at_) (x_ := x_) B _) fun w31 hs33 => ?_
    refine zE 1 (hK30 _ _ ?_)
    refine W.ret ?_
    have e1_ : (vwrite img l at_ x_).1 = (vput img l at_ x_).1 := by first | (exfalso; omega) | (simp only [vwrite]; rw [if_pos (by omega)]) | (simp only [vwrite]; rw [if_neg (by omega), if_pos (by assumption)]) | (simp only [vwrite]; rw [if_neg (by omega), if_neg (by assumption)])
    have e2_ : (vwrite img l at_ x_).2 = (vput img l at_ x_).2 := by first | (exfalso; omega) | (simp only [vwrite]; rw [if_pos (by omega)]) | (simp only [vwrite]; rw [if_neg (by omega), if_pos (by assumption)]) | (simp only [vwrite]; rw [if_neg (by omega), if_neg (by assumption)])
    refine ret_of (.int .i64 ((vput img l at_ x_).1)) (by kernel_rfl) ⟨_, ⟨by rw [e1_], by rw [e2_]⟩, hs33⟩

end Go.Proofs.YtmmclabkkigiaaaDoor

set_option maxRecDepth 20000
namespace Go.Proofs.YtmmclabkkigiaaaDoor
open Go Go.RowKit
set_option linter.unusedSimpArgs false
set_option linter.unusedVariables false


theorem ifind_nil {gw gi gb n_ : Int} (B : Nat) (w : World) : Spec Tryd.prog 74 #[(.pointer none), (.agg #[(.int .i64 gw), (.int .i64 gi), (.int .i64 gb)]), (.int .i64 n_)] B w [] (fun v H' => v = .tuple #[.int .i64 0, .int .i64 2] ∧ H' = []) := by
 refine spec_Q Tryd.func74 rfl fun hs => ?_
 refine W.sr fun K1 hK1 => ?_
 refine zN [(.int .i64 gw), (.int .i64 gi), (.int .i64 gb)] 23 hs fun b4 w2 hs3 => ?_
 refine zE 2 (hK1 _ _ ?_)
 refine W.sr fun K5 hK5 => ?_
 refine ops_R (runs_loadAgg (ad := ⟨b4, 0, none⟩) (cs := [(.int .i64 gw), (.int .i64 gi), (.int .i64 gb)]) (by kernel_rfl) (cells_sub (hs3.heapAt 0 rfl) rfl)) ?_
 refine zR 1 ?_
 refine zC00 hs3 (inodeat_spec (gw := gw) (gi := gi) (gb := gb) (n_ := n_) B _) fun w6 hs8 => ?_
 refine zE 1 (hK5 _ _ ?_)
 refine W.seq fun K9 hK9 => ?_
 refine W.block ?_
 refine W.sr fun K10 hK10 => ?_
 refine zE 3 (hK10 _ _ ?_)
 refine W.cond_true true (by kernel_rfl) rfl ?_
 refine W.sr fun K11 hK11 => ?_
 refine zE 2 (hK11 _ _ ?_)
 refine W.ret (ret_block (ret_seq ?_))
 have hs12 := St.tk0 hs8
 refine ret_of (.tuple #[(.int .i64 0), (.int .i64 2)]) (by kernel_rfl) ⟨_, ⟨rfl, rfl⟩, hs12⟩

theorem ifind_spec {b : Nat} {img : List Int} {l : List (Int × Int)} {gw gi gb n_ : Int} (B : Nat) (w : World) (hv : ViewAt (ptr b) img l w) : Spec Tryd.prog 74 #[(.pointer (some ⟨b, 0, none⟩)), (.agg #[(.int .i64 gw), (.int .i64 gi), (.int .i64 gb)]), (.int .i64 n_)] B w [] (fun v H' => v = .tuple #[.int .i64 (ifind (img.length : Int) gw gi gb n_).1, .int .i64 (ifind (img.length : Int) gw gi gb n_).2] ∧ H' = []) := by
 refine spec_Q Tryd.func74 rfl fun hs => ?_
 refine W.sr fun K1 hK1 => ?_
 refine zN [(.int .i64 gw), (.int .i64 gi), (.int .i64 gb)] 23 hs fun b4 w2 hs3 => ?_
 refine zE 2 (hK1 _ _ ?_)
 refine W.sr fun K5 hK5 => ?_
 refine ops_R (runs_loadAgg (ad := ⟨b4, 0, none⟩) (cs := [(.int .i64 gw), (.int .i64 gi), (.int .i64 gb)]) (by kernel_rfl) (cells_sub (hs3.heapAt 0 rfl) rfl)) ?_
 refine zR 1 ?_
 refine zC00 hs3 (inodeat_spec (gw := gw) (gi := gi) (gb := gb) (n_ := n_) B _) fun w6 hs8 => ?_
 refine zE 1 (hK5 _ _ ?_)
 refine W.seq fun K9 hK9 => ?_
 refine W.block ?_
 refine W.sr fun K10 hK10 => ?_
 refine zE 3 (hK10 _ _ ?_)
 refine W.cond_false false (by kernel_rfl) rfl ?_
 refine W.seq fun K11 hK11 => ?_
 refine W.sr fun K12 hK12 => ?_
 refine zE 3 (hK12 _ _ ?_)
 refine W.cond (decide ((placeOf 8 gw gi gb n_) < 0)) (by kernel_rfl) (fun h13 => ?_) (fun h13 => ?_)
 ·
  have h13p := of_decide_eq_true h13
  refine W.skip ?_
  refine hK11 _ _ ?_
  refine W.cond (decide ((placeOf 8 gw gi gb n_) < 0)) (by kernel_rfl) (fun h14 => ?_) (fun h14 => ?_)
  ·
   have h14p := of_decide_eq_true h14
   refine W.sr fun K15 hK15 => ?_
   refine zE 2 (hK15 _ _ ?_)
   refine W.ret (ret_block (ret_seq ?_))
   have hs16 := St.tk0 hs8
   have e1_ : (ifind (img.length : Int) gw gi gb n_).1 = 0 := by first | (exfalso; omega) | (simp only [ifind]; rw [if_pos (by omega)]) | (simp only [ifind]; rw [if_neg (by omega), if_pos (by omega)]) | (simp only [ifind]; rw [if_neg (by omega), if_neg (by omega)])
   have e2_ : (ifind (img.length : Int) gw gi gb n_).2 = 1 := by first | (exfalso; omega) | (simp only [ifind]; rw [if_pos (by omega)]) | (simp only [ifind]; rw [if_neg (by omega), if_pos (by omega)]) | (simp only [ifind]; rw [if_neg (by omega), if_neg (by omega)])
   refine ret_of (.tuple #[(.int .i64 0), (.int .i64 1)]) (by kernel_rfl) ⟨_, ⟨by rw [e1_, e2_], rfl⟩, hs16⟩
  ·
   have h14p := of_decide_eq_false h14
   refine W.seq fun K17 hK17 => ?_
   have hs18 := hs8.drew
   refine W.regionD [(0, 0), (1, 1), (0, 0), (6, 4), (10, 10), (24, 16)] (fun w_ => St B w [] w_ [blk b4 (.cells [(.int .i64 gw), (.int .i64 gi), (.int .i64 gb)].toArray 23 (0, 0))]) (by kernel_rfl) hs18 ?_
   refine any_val (v := (.pointer (some ⟨b, 0, none⟩))) (v' := (.pointer (some ⟨b, 0, none⟩))) 0 (by kernel_rfl) (fun _ => by kernel_rfl) rfl hs18 ?_
   refine any_R 2 (by kernel_rfl) (fun _ hS_ => runs_loadAgg (ad := ⟨b4, 0, none⟩) (cs := [(.int .i64 gw), (.int .i64 gi), (.int .i64 gb)]) (by kernel_rfl) (cells_sub (hS_.heapAt 0 rfl) rfl)) hs18 ?_
   refine any_step 1 (by kernel_rfl) (by kernel_rfl) ?_
   refine zC00 hs18 (len_spec (hv := (viewAt_old hs18 hv)) B _) fun w19 hs21 => ?_
   refine ops_done (by kernel_rfl) ⟨hs21, ?_⟩
   refine any_step 3 (by kernel_rfl) (by kernel_rfl) ?_
   refine zC00 hs21 (lwords_spec (gw := gw) (gi := gi) (gb := gb) B _) fun w22 hs24 => ?_
   refine ops_done (by kernel_rfl) ⟨hs24, ?_⟩
   refine any_val (v := (.bool (decide ((img.length : Int) < (wordsOf gw gi gb))))) (v' := (.bool (decide ((img.length : Int) < (wordsOf gw gi gb))))) 4 (by kernel_rfl) (fun _ => by kernel_rfl) rfl hs24 ?_
   refine any_val (v := (.bool (decide ((img.length : Int) < (wordsOf gw gi gb))))) (v' := (.bool (decide ((img.length : Int) < (wordsOf gw gi gb))))) 5 (by kernel_rfl) (fun _ => by kernel_rfl) rfl hs24 ?_
   refine any_done (by kernel_rfl) ?_
   refine hK17 _ _ ?_
   refine W.cond (decide ((img.length : Int) < (wordsOf gw gi gb))) (by kernel_rfl) (fun h25 => ?_) (fun h25 => ?_)
   ·
    have h25p := of_decide_eq_true h25
    refine W.sr fun K26 hK26 => ?_
    refine zE 2 (hK26 _ _ ?_)
    refine W.ret (ret_block (ret_seq ?_))
    have hs27 := St.tk0 hs24
    have e1_ : (ifind (img.length : Int) gw gi gb n_).1 = 0 := by first | (exfalso; omega) | (simp only [ifind]; rw [if_pos (by omega)]) | (simp only [ifind]; rw [if_neg (by omega), if_pos (by omega)]) | (simp only [ifind]; rw [if_neg (by omega), if_neg (by omega)])
    have e2_ : (ifind (img.length : Int) gw gi gb n_).2 = 8 := by first | (exfalso; omega) | (simp only [ifind]; rw [if_pos (by omega)]) | (simp only [ifind]; rw [if_neg (by omega), if_pos (by omega)]) | (simp only [ifind]; rw [if_neg (by omega), if_neg (by omega)])
    refine ret_of (.tuple #[(.int .i64 0), (.int .i64 8)]) (by kernel_rfl) ⟨_, ⟨by rw [e1_, e2_], rfl⟩, hs27⟩
   ·
    have h25p := of_decide_eq_false h25
    refine W.skip ?_
    refine normal_block ?_
    refine hK9 _ _ ?_
    refine W.sr fun K28 hK28 => ?_
    refine zE 3 (hK28 _ _ ?_)
    refine W.ret ?_
    have hs29 := St.tk0 hs24
    have e1_ : (ifind (img.length : Int) gw gi gb n_).1 = (placeOf 8 gw gi gb n_) := by first | (exfalso; omega) | (simp only [ifind]; rw [if_pos (by omega)]) | (simp only [ifind]; rw [if_neg (by omega), if_pos (by omega)]) | (simp only [ifind]; rw [if_neg (by omega), if_neg (by omega)])
    have e2_ : (ifind (img.length : Int) gw gi gb n_).2 = 0 := by first | (exfalso; omega) | (simp only [ifind]; rw [if_pos (by omega)]) | (simp only [ifind]; rw [if_neg (by omega), if_pos (by omega)]) | (simp only [ifind]; rw [if_neg (by omega), if_neg (by omega)])
    refine ret_of (.tuple #[(.int .i64 (placeOf 8 gw gi gb n_)), (.int .i64 0)]) (by kernel_rfl) ⟨_, ⟨by rw [e1_, e2_], rfl⟩, hs29⟩
 ·
  have h13p := of_decide_eq_false h13
  refine W.region ?_
  refine zE 3 (hK11 _ _ ?_)
  refine W.cond (decide (n_ = 0)) (by kernel_rfl) (fun h30 => ?_) (fun h30 => ?_)
  ·
   have h30p := of_decide_eq_true h30
   refine W.sr fun K31 hK31 => ?_
   refine zE 2 (hK31 _ _ ?_)
   refine W.ret (ret_block (ret_seq ?_))
   have hs32 := St.tk0 hs8
   have e1_ : (ifind (img.length : Int) gw gi gb n_).1 = 0 := by first | (exfalso; omega) | (simp only [ifind]; rw [if_pos (by omega)]) | (simp only [ifind]; rw [if_neg (by omega), if_pos (by omega)]) | (simp only [ifind]; rw [if_neg (by omega), if_neg (by omega)])
   have e2_ : (ifind (img.length : Int) gw gi gb n_).2 = 1 := by first | (exfalso; omega) | (simp only [ifind]; rw [if_pos (by omega)]) | (simp only [ifind]; rw [if_neg (by omega), if_pos (by omega)]) | (simp only [ifind]; rw [if_neg (by omega), if_neg (by omega)])
   refine ret_of (.tuple #[(.int .i64 0), (.int .i64 1)]) (by kernel_rfl) ⟨_, ⟨by rw [e1_, e2_], rfl⟩, hs32⟩
  ·
   have h30p := of_decide_eq_false h30
   refine W.seq fun K33 hK33 => ?_
   have hs34 := hs8.drew
   refine W.regionD [(0, 0), (1, 1), (0, 0), (6, 4), (10, 10), (24, 16)] (fun w_ => St B w [] w_ [blk b4 (.cells [(.int .i64 gw), (.int .i64 gi), (.int .i64 gb)].toArray 23 (0, 0))]) (by kernel_rfl) hs34 ?_
   refine any_val (v := (.pointer (some ⟨b, 0, none⟩))) (v' := (.pointer (some ⟨b, 0, none⟩))) 0 (by kernel_rfl) (fun _ => by kernel_rfl) rfl hs34 ?_
   refine any_R 2 (by kernel_rfl) (fun _ hS_ => runs_loadAgg (ad := ⟨b4, 0, none⟩) (cs := [(.int .i64 gw), (.int .i64 gi), (.int .i64 gb)]) (by kernel_rfl) (cells_sub (hS_.heapAt 0 rfl) rfl)) hs34 ?_
   refine any_step 1 (by kernel_rfl) (by kernel_rfl) ?_
   refine zC00 hs34 (len_spec (hv := (viewAt_old hs34 hv)) B _) fun w35 hs37 => ?_
   refine ops_done (by kernel_rfl) ⟨hs37, ?_⟩
   refine any_step 3 (by kernel_rfl) (by kernel_rfl) ?_
   refine zC00 hs37 (lwords_spec (gw := gw) (gi := gi) (gb := gb) B _) fun w38 hs40 => ?_
   refine ops_done (by kernel_rfl) ⟨hs40, ?_⟩
   refine any_val (v := (.bool (decide ((img.length : Int) < (wordsOf gw gi gb))))) (v' := (.bool (decide ((img.length : Int) < (wordsOf gw gi gb))))) 4 (by kernel_rfl) (fun _ => by kernel_rfl) rfl hs40 ?_
   refine any_val (v := (.bool (decide ((img.length : Int) < (wordsOf gw gi gb))))) (v' := (.bool (decide ((img.length : Int) < (wordsOf gw gi gb))))) 5 (by kernel_rfl) (fun _ => by kernel_rfl) rfl hs40 ?_
   refine any_done (by kernel_rfl) ?_
   refine hK33 _ _ ?_
   refine W.cond (decide ((img.length : Int) < (wordsOf gw gi gb))) (by kernel_rfl) (fun h41 => ?_) (fun h41 => ?_)
   ·
    have h41p := of_decide_eq_true h41
    refine W.sr fun K42 hK42 => ?_
    refine zE 2 (hK42 _ _ ?_)
    refine W.ret (ret_block (ret_seq ?_))
    have hs43 := St.tk0 hs40
    have e1_ : (ifind (img.length : Int) gw gi gb n_).1 = 0 := by first | (exfalso; omega) | (simp only [ifind]; rw [if_pos (by omega)]) | (simp only [ifind]; rw [if_neg (by omega), if_pos (by omega)]) | (simp only [ifind]; rw [if_neg (by omega), if_neg (by omega)])
    have e2_ : (ifind (img.length : Int) gw gi gb n_).2 = 8 := by first | (exfalso; omega) | (simp only [ifind]; rw [if_pos (by omega)]) | (simp only [ifind]; rw [if_neg (by omega), if_pos (by omega)]) | (simp only [ifind]; rw [if_neg (by omega), if_neg (by omega)])
    refine ret_of (.tuple #[(.int .i64 0), (.int .i64 8)]) (by kernel_rfl) ⟨_, ⟨by rw [e1_, e2_], rfl⟩, hs43⟩
   ·
    have h41p := of_decide_eq_false h41
    refine W.skip ?_
    refine normal_block ?_
    refine hK9 _ _ ?_
    refine W.sr fun K44 hK44 => ?_
    refine zE 3 (hK44 _ _ ?_)
    refine W.ret ?_
    have hs45 := St.tk0 hs40
    have e1_ : (ifind (img.length : Int) gw gi gb n_).1 = (placeOf 8 gw gi gb n_) := by first | (exfalso; omega) | (simp only [ifind]; rw [if_pos (by omega)]) | (simp only [ifind]; rw [if_neg (by omega), if_pos (by omega)]) | (simp only [ifind]; rw [if_neg (by omega), if_neg (by omega)])
    have e2_ : (ifind (img.length : Int) gw gi gb n_).2 = 0 := by first | (exfalso; omega) | (simp only [ifind]; rw [if_pos (by omega)]) | (simp only [ifind]; rw [if_neg (by omega), if_pos (by omega)]) | (simp only [ifind]; rw [if_neg (by omega), if_neg (by omega)])
    refine ret_of (.tuple #[(.int .i64 (placeOf 8 gw gi gb n_)), (.int .i64 0)]) (by kernel_rfl) ⟨_, ⟨by rw [e1_, e2_], rfl⟩, hs45⟩


theorem inode_spec {x_ : Nd} (B : Nat) (w : World) : Spec Tryd.prog 75 #[(.agg #[(.int .u64 x_.k), (.int .u64 x_.l), (.int .u64 x_.o), (.int .u64 x_.s), (.int .u64 x_.a), (.int .u64 x_.b), (.int .u64 x_.c), (.int .u64 x_.d), (.int .u64 x_.e), (.int .u64 x_.m)])] B w [] (fun v H' => v = (.agg #[(.int .u64 x_.k), (.int .u64 x_.l), (.int .u64 x_.o), (.int .u64 x_.s), (.int .u64 x_.a), (.int .u64 x_.b), (.int .u64 x_.c), (.int .u64 x_.d), (.int .u64 x_.e), (.int .u64 x_.m)]) ∧ H' = []) := by
 refine spec_Q Tryd.func75 rfl fun hs => ?_
 refine W.sr fun K1 hK1 => ?_
 refine zN [(.int .u64 x_.k), (.int .u64 x_.l), (.int .u64 x_.o), (.int .u64 x_.s), (.int .u64 x_.a), (.int .u64 x_.b), (.int .u64 x_.c), (.int .u64 x_.d), (.int .u64 x_.e), (.int .u64 x_.m)] 128 hs fun b4 w2 hs3 => ?_
 refine zN [(.int .u64 0), (.int .u64 0), (.int .u64 0), (.int .u64 0), (.int .u64 0), (.int .u64 0), (.int .u64 0), (.int .u64 0), (.int .u64 0), (.int .u64 0)] 78 hs3 fun b7 w5 hs6 => ?_
 refine zD (hK1 _ _ ?_)
 refine W.seq fun K8 hK8 => ?_
 have hs9 := hs6.drew
 have hs10 := St.f1 hs9
 have hs11 := St.tk1 hs10
 refine W.regionD [(0, 0), (1, 1), (0, 0), (4, 4), (0, 0), (16, 16), (0, 0), (64, 64), (0, 0), (256, 256), (512, 512), (0, 0), (2048, 2048), (0, 0), (8192, 8192), (21674, 21674), (65535, 32768)] (fun w_ => St B w [] w_ [blk b4 (.cells [(.int .u64 x_.k), (.int .u64 x_.l), (.int .u64 x_.o), (.int .u64 x_.s), (.int .u64 x_.a), (.int .u64 x_.b), (.int .u64 x_.c), (.int .u64 x_.d), (.int .u64 x_.e), (.int .u64 x_.m)].toArray 128 (0, 0))]) (by kernel_rfl) hs11 ?_
 refine any_val (v := (.pointer (some ⟨b4, 0, none⟩))) (v' := (.pointer (some ⟨b4, 0, none⟩))) 0 (by kernel_rfl) (fun _ => by kernel_rfl) rfl hs11 ?_
 refine any_R 1 (by kernel_rfl) (fun _ hS_ => runs_load (ad := ⟨b4, 0, none⟩) (v := (.int .u64 x_.k)) (by kernel_rfl) (hS_.cellAt 0 rfl rfl)) hs11 ?_
 refine any_val (v := (.pointer (some ⟨b4, 1, none⟩))) (v' := (.pointer (some ⟨b4, 1, none⟩))) 2 (by kernel_rfl) (fun _ => by kernel_rfl) rfl hs11 ?_
 refine any_R 3 (by kernel_rfl) (fun _ hS_ => runs_load (ad := ⟨b4, 1, none⟩) (v := (.int .u64 x_.l)) (by kernel_rfl) (hS_.cellAt 0 rfl rfl)) hs11 ?_
 refine any_val (v := (.pointer (some ⟨b4, 2, none⟩))) (v' := (.pointer (some ⟨b4, 2, none⟩))) 4 (by kernel_rfl) (fun _ => by kernel_rfl) rfl hs11 ?_
 refine any_R 5 (by kernel_rfl) (fun _ hS_ => runs_load (ad := ⟨b4, 2, none⟩) (v := (.int .u64 x_.o)) (by kernel_rfl) (hS_.cellAt 0 rfl rfl)) hs11 ?_
 refine any_val (v := (.pointer (some ⟨b4, 3, none⟩))) (v' := (.pointer (some ⟨b4, 3, none⟩))) 6 (by kernel_rfl) (fun _ => by kernel_rfl) rfl hs11 ?_
 refine any_R 7 (by kernel_rfl) (fun _ hS_ => runs_load (ad := ⟨b4, 3, none⟩) (v := (.int .u64 x_.s)) (by kernel_rfl) (hS_.cellAt 0 rfl rfl)) hs11 ?_
 refine any_val (v := (.slice (some ⟨b4, 4, none⟩) 4 6)) (v' := (.slice (some ⟨b4, 4, none⟩) 4 6)) 8 (by kernel_rfl) (fun _ => by kernel_rfl) rfl hs11 ?_
 refine any_val (v := (.pointer (some ⟨b4, 4, none⟩))) (v' := (.pointer (some ⟨b4, 4, none⟩))) 9 (by kernel_rfl) (fun _ => by kernel_rfl) rfl hs11 ?_
 refine any_R 10 (by kernel_rfl) (fun _ hS_ => runs_loadAgg (ad := ⟨b4, 4, none⟩) (cs := [(.int .u64 x_.a), (.int .u64 x_.b), (.int .u64 x_.c), (.int .u64 x_.d)]) (by kernel_rfl) (cells_sub (hS_.heapAt 0 rfl) rfl)) hs11 ?_
 refine any_val (v := (.pointer (some ⟨b4, 8, none⟩))) (v' := (.pointer (some ⟨b4, 8, none⟩))) 11 (by kernel_rfl) (fun _ => by kernel_rfl) rfl hs11 ?_
 refine any_R 12 (by kernel_rfl) (fun _ hS_ => runs_load (ad := ⟨b4, 8, none⟩) (v := (.int .u64 x_.e)) (by kernel_rfl) (hS_.cellAt 0 rfl rfl)) hs11 ?_
 refine any_val (v := (.pointer (some ⟨b4, 9, none⟩))) (v' := (.pointer (some ⟨b4, 9, none⟩))) 13 (by kernel_rfl) (fun _ => by kernel_rfl) rfl hs11 ?_
 refine any_R 14 (by kernel_rfl) (fun _ hS_ => runs_load (ad := ⟨b4, 9, none⟩) (v := (.int .u64 x_.m)) (by kernel_rfl) (hS_.cellAt 0 rfl rfl)) hs11 ?_
 refine any_val (v := (.agg #[(.int .u64 x_.k), (.int .u64 x_.l), (.int .u64 x_.o), (.int .u64 x_.s), (.int .u64 x_.a), (.int .u64 x_.b), (.int .u64 x_.c), (.int .u64 x_.d), (.int .u64 x_.e), (.int .u64 x_.m)])) (v' := (.agg #[(.int .u64 x_.k), (.int .u64 x_.l), (.int .u64 x_.o), (.int .u64 x_.s), (.int .u64 x_.a), (.int .u64 x_.b), (.int .u64 x_.c), (.int .u64 x_.d), (.int .u64 x_.e), (.int .u64 x_.m)])) 15 (by kernel_rfl) (fun _ => by kernel_rfl) rfl hs11 ?_
 refine any_step 16 (by kernel_rfl) (by kernel_rfl) ?_
 refine ops_store (off := 0) (cs := [(.int .u64 0), (.int .u64 0), (.int .u64 0), (.int .u64 0), (.int .u64 0), (.int .u64 0), (.int .u64 0), (.int .u64 0), (.int .u64 0), (.int .u64 0)]) (vs := [(.int .u64 x_.k), (.int .u64 x_.l), (.int .u64 x_.o), (.int .u64 x_.s), (.int .u64 x_.a), (.int .u64 x_.b), (.int .u64 x_.c), (.int .u64 x_.d), (.int .u64 x_.e), (.int .u64 x_.m)]) hs9 (by kernel_rfl) (by simp) rfl (fun w12 hs13 => ?_)
 have hs14 : St B w [] w12 [blk b7 (.cells [(.int .u64 x_.k), (.int .u64 x_.l), (.int .u64 x_.o), (.int .u64 x_.s), (.int .u64 x_.a), (.int .u64 x_.b), (.int .u64 x_.c), (.int .u64 x_.d), (.int .u64 x_.e), (.int .u64 x_.m)].toArray 78 (0, 0)), blk b4 (.cells [(.int .u64 x_.k), (.int .u64 x_.l), (.int .u64 x_.o), (.int .u64 x_.s), (.int .u64 x_.a), (.int .u64 x_.b), (.int .u64 x_.c), (.int .u64 x_.d), (.int .u64 x_.e), (.int .u64 x_.m)].toArray 128 (0, 0))] := hs13
 have hs15 := St.f1 hs14
 have hs16 := St.tk1 hs15
 refine ops_done (by kernel_rfl) ⟨hs16, ?_⟩
 refine any_done (by kernel_rfl) ?_
 refine hK8 _ _ ?_
 refine W.ret ?_
 have hs17 := St.tk0 hs14
 refine ret_of (.agg #[(.int .u64 x_.k), (.int .u64 x_.l), (.int .u64 x_.o), (.int .u64 x_.s), (.int .u64 x_.a), (.int .u64 x_.b), (.int .u64 x_.c), (.int .u64 x_.d), (.int .u64 x_.e), (.int .u64 x_.m)]) (results_cell (ad := ⟨b7, 0, none⟩) (cs := [(.int .u64 x_.k), (.int .u64 x_.l), (.int .u64 x_.o), (.int .u64 x_.s), (.int .u64 x_.a), (.int .u64 x_.b), (.int .u64 x_.c), (.int .u64 x_.d), (.int .u64 x_.e), (.int .u64 x_.m)]) rfl (by kernel_rfl) (by kernel_rfl) (cells_sub (hs14.heapAt 0 rfl) rfl)) ⟨_, ⟨rfl, rfl⟩, hs17⟩

end Go.Proofs.YtmmclabkkigiaaaDoor
