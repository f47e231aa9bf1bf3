/- Contracts of the functions of view, by a program. -/
import Derived.Test.YthimamnblklkbaaDoorVw
namespace Go.Proofs.YthimamnblklkbaaDoor
open Go Go.RowKit
set_option linter.unusedSimpArgs false
set_option linter.unusedVariables false

set_option maxRecDepth 20000 in
theorem len_spec {p : Value} {img : List Int} {l : List (Int × Int)} (B : Nat) (w : World) (hv : ViewAt p img l w) : Spec Tryd.prog 90 #[p] B w [] (fun v H' => v = .int .i64 (img.length : Int) ∧ H' = []) := by
  refine spec_Q Tryd.func90 rfl fun hs => ?_
  have hv0 := hv
  obtain ⟨x, rfl, hok, hb, hi, hm, ho, hcap⟩ := hv
  refine W.seq fun K1 hK1 => ?_
  refine W.region ?_
  refine ops_run 1 (by kernel_rfl) ?_
  refine ops_done (by kernel_rfl) ?_
  refine hK1 _ _ ?_
  clear hK1
  refine W.seq fun K2 hK2 => ?_
  refine W.seq fun K3 hK3 => ?_
  refine W.region ?_
  refine ops_run 2 (by kernel_rfl) ?_
  refine ops_done (by kernel_rfl) ?_
  refine hK3 _ _ ?_
  clear hK3
  refine W.cond_false false (by kernel_rfl) rfl ?_
  refine W.skip ?_
  refine hK2 _ _ ?_
  clear hK2
  refine W.seq fun K4 hK4 => ?_
  refine W.region ?_
  refine ops_run 3 (by kernel_rfl) ?_
  refine ops_R (runs_load (ad := ⟨x.b, 0, none⟩) (v := (.slice x.ia img.length x.ic)) (by kernel_rfl) (cell_of_blk (hs.old hb) rfl)) ?_
  refine ops_run 2 (by kernel_rfl) ?_
  refine ops_done (by kernel_rfl) ?_
  refine hK4 _ _ ?_
  clear hK4
  refine W.ret ?_
  refine ret_of (.int .i64 (img.length : Int)) (by kernel_rfl) ⟨_, ?_, hs⟩
  exact ⟨rfl, rfl⟩

set_option maxRecDepth 20000 in
theorem has_spec {p : Value} {img : List Int} {l : List (Int × Int)} {at_ : Int} (B : Nat) (w : World) (hv : ViewAt p img l w) : Spec Tryd.prog 98 #[p, (.int .i64 at_)] B w [] (fun v H' => v = .bool (decide (0 ≤ at_ ∧ at_ < (img.length : Int))) ∧ H' = []) := by
  refine spec_Q Tryd.func98 rfl fun hs => ?_
  have hv0 := hv
  obtain ⟨x, rfl, hok, hb, hi, hm, ho, hcap⟩ := hv
  refine W.seq fun K1 hK1 => ?_
  refine W.region ?_
  refine ops_run 1 (by kernel_rfl) ?_
  refine ops_done (by kernel_rfl) ?_
  refine hK1 _ _ ?_
  clear hK1
  refine W.seq fun K2 hK2 => ?_
  refine W.region ?_
  refine ops_run 3 (by kernel_rfl) ?_
  rcases Bool.eq_false_or_eq_true (decide (at_ ≥ 0)) with h3 | h3
  ·
    have h3p : at_ ≥ 0 := of_decide_eq_true h3
    refine ops_set 7 (v := .bool true) (eq_bool_of (by kernel_rfl) h3) ?_
    refine ops_set 6 (v := .bool true) (eq_bool_of (by kernel_rfl) h3) ?_
    refine ops_run 2 (by kernel_rfl) ?_
    refine ops_call (pre := []) hs (by kernel_rfl) (len_spec (hv := (viewAt_old hs hv0)) B _) ?_
    rintro _ _ w4 ⟨rfl, rfl⟩ hs5
    have hs6 : St B w [] w4 [] := hs5
    refine ops_run 3 (by kernel_rfl) ?_
    refine ops_done (by kernel_rfl) ?_
    refine hK2 _ _ ?_
    clear hK2
    refine W.ret ?_
    refine ret_of (.bool (decide (at_ < (img.length : Int)))) (by kernel_rfl) ⟨_, ?_, hs6⟩
    exact ⟨congrArg Value.bool (decide_eq_decide.2 (by omega)), rfl⟩
  ·
    have h3p : ¬ (at_ ≥ 0) := of_decide_eq_false h3
    refine ops_set 7 (v := .bool false) (eq_bool_of (by kernel_rfl) h3) ?_
    refine ops_set 6 (v := .bool false) (eq_bool_of (by kernel_rfl) h3) ?_
    refine ops_run 6 (by kernel_rfl) ?_
    refine ops_done (by kernel_rfl) ?_
    refine hK2 _ _ ?_
    clear hK2
    refine W.ret ?_
    refine ret_of (.bool false) (by kernel_rfl) ⟨_, ?_, hs⟩
    exact ⟨congrArg Value.bool (decide_eq_false (by omega)).symm, rfl⟩

set_option maxRecDepth 20000 in
theorem get_spec {p : Value} {img : List Int} {l : List (Int × Int)} {at_ : Int} (B : Nat) (w : World) (hv : ViewAt p img l w) : Spec Tryd.prog 28 #[p, (.int .i64 at_)] B w [] (fun v H' => v = .int .u64 (vget img l at_) ∧ H' = []) := by
  refine spec_Q Tryd.func28 rfl fun hs => ?_
  have hv0 := hv
  obtain ⟨x, rfl, hok, hb, hi, hm, ho, hcap⟩ := hv
  refine W.seq fun K1 hK1 => ?_
  refine W.region ?_
  refine ops_run 1 (by kernel_rfl) ?_
  refine ops_done (by kernel_rfl) ?_
  refine hK1 _ _ ?_
  clear hK1
  refine W.seq fun K2 hK2 => ?_
  refine W.seq fun K3 hK3 => ?_
  refine W.region ?_
  refine ops_run 2 (by kernel_rfl) ?_
  refine ops_call (pre := []) hs (by kernel_rfl) (has_spec (at_ := at_) (hv := (viewAt_old hs hv0)) B _) ?_
  rintro _ _ w4 ⟨rfl, rfl⟩ hs5
  have hs6 : St B w [] w4 [] := hs5
  refine ops_run 1 (by kernel_rfl) ?_
  refine ops_done (by kernel_rfl) ?_
  refine hK3 _ _ ?_
  clear hK3
  refine W.cond (!(decide (0 ≤ at_ ∧ at_ < (img.length : Int)))) (by kernel_rfl) (fun h7 => ?_) (fun h7 => ?_)
  ·
    have h7p : ¬ (0 ≤ at_ ∧ at_ < (img.length : Int)) := of_decide_eq_false (bnot_true h7)
    refine W.seq fun K8 hK8 => ?_
    refine W.region ?_
    refine ops_run 1 (by kernel_rfl) ?_
    refine ops_done (by kernel_rfl) ?_
    refine hK8 _ _ ?_
    clear hK8
    refine W.ret (ret_seq ?_)
    refine ret_of (.int .u64 0) (by kernel_rfl) ⟨_, ?_, hs6⟩
    exact ⟨by simp only [vget]; rw [if_neg (by omega)], rfl⟩
  ·
    have h7p : 0 ≤ at_ ∧ at_ < (img.length : Int) := of_decide_eq_true (bnot_false h7)
    refine W.skip ?_
    refine hK2 _ _ ?_
    clear hK2
    refine W.seq fun K9 hK9 => ?_
    refine W.seq fun K10 hK10 => ?_
    refine W.region ?_
    refine ops_run 3 (by kernel_rfl) ?_
    refine ops_R (runs_load (ad := ⟨x.b, 1, none⟩) (v := (.map (some x.mb))) (by kernel_rfl) (cell_of_blk (hs6.old hb) rfl)) ?_
    refine ops_run 1 (by kernel_rfl) ?_
    refine ops_R (v := (.tuple #[(.int .u64 ((vlook l at_).getD 0)), (.bool ((vlook l at_).isSome))])) (runs_lookup (k := at_) (ok := true) (hs6.oldMap hm) (by kernel_rfl)) ?_
    refine ops_run 5 (by kernel_rfl) ?_
    refine ops_done (by kernel_rfl) ?_
    refine hK10 _ _ ?_
    clear hK10
    refine W.seq fun K11 hK11 => ?_
    refine W.region ?_
    refine ops_run 1 (by kernel_rfl) ?_
    refine ops_done (by kernel_rfl) ?_
    refine hK11 _ _ ?_
    clear hK11
    refine W.cond ((vlook l at_).isSome) (by kernel_rfl) (fun h12 => ?_) (fun h12 => ?_)
    ·
      have h12p : ((vlook l at_).isSome) = true := h12
      refine W.seq fun K13 hK13 => ?_
      refine W.region ?_
      refine ops_run 2 (by kernel_rfl) ?_
      refine ops_done (by kernel_rfl) ?_
      refine hK13 _ _ ?_
      clear hK13
      refine W.ret (ret_seq ?_)
      refine ret_of (.int .u64 ((vlook l at_).getD 0)) (by kernel_rfl) ⟨_, ?_, hs6⟩
      exact ⟨congrArg (Value.int .u64) (by simp only [vget]; rw [if_pos (by omega)]; cases hq : vlook l at_ <;> simp_all), rfl⟩
    ·
      have h12p : ((vlook l at_).isSome) = false := h12
      refine W.skip ?_
      refine hK9 _ _ ?_
      clear hK9
      refine W.seq fun K14 hK14 => ?_
      refine W.region ?_
      refine ops_run 3 (by kernel_rfl) ?_
      refine ops_R (runs_load (ad := ⟨x.b, 0, none⟩) (v := (.slice x.ia img.length x.ic)) (by kernel_rfl) (cell_of_blk (hs6.old hb) rfl)) ?_
      refine ops_run 1 (by kernel_rfl) ?_
      have hk15 : at_.toNat < img.length := by omega
      refine ops_R (runs_index (a := x.ia) (n := img.length) (z := at_) (size := 1) at_.toNat (by omega) hk15 (kU64.addr (hs6.oldCells hi) hk15) (by kernel_rfl)) ?_
      refine ops_R (runs_load (ad := ((adr x.ia (at_.toNat * 1)).add 0)) (v := (.int .u64 (img.getD at_.toNat 0))) (by kernel_rfl) (kU64.at (hs6.oldCells hi) hk15 0 0 rfl)) ?_
      refine ops_run 1 (by kernel_rfl) ?_
      refine ops_done (by kernel_rfl) ?_
      refine hK14 _ _ ?_
      clear hK14
      refine W.ret ?_
      refine ret_of (.int .u64 (img.getD at_.toNat 0)) (by kernel_rfl) ⟨_, ?_, hs6⟩
      exact ⟨congrArg (Value.int .u64) (by simp only [vget]; rw [if_pos (by omega)]; cases hq : vlook l at_ <;> simp_all), rfl⟩

set_option maxRecDepth 20000 in
theorem put_spec {p : Value} {img : List Int} {l : List (Int × Int)} {at_ x_ : Int} (B : Nat) (w : World) : Spec Tryd.prog 95 #[p, (.int .i64 at_), (.int .u64 x_)] B w [viewA p img l] (fun v H' => v = .int .i64 (vput img l at_ x_).1 ∧ H' = [viewA p img (vput img l at_ x_).2]) := by
  refine spec_W Tryd.func95 rfl fun l0 hs => ?_
  have hv0 := hs.entAt 0 rfl viewA_at
  obtain ⟨x, ⟨rfl, hok⟩, hs0⟩ := St.open hs
  have hs1 : St B w l0 w [blk x.b (.cells [(.slice x.ia img.length x.ic), (.map (some x.mb)), (.slice x.oa ((l.map (·.1)).length) x.oc)].toArray 163 (0, 0)), kU64.row x.ia x.ic img, mapA x.mb l, kInt.row x.oa x.oc (l.map (·.1))] := hs0
  have hlm : (l.map (·.1)).length = l.length := List.length_map _
  have hroom := hok.many
  refine W.seq fun K1 hK1 => ?_
  refine W.region ?_
  refine ops_run 1 (by kernel_rfl) ?_
  refine ops_done (by kernel_rfl) ?_
  refine hK1 _ _ ?_
  clear hK1
  refine W.seq fun K2 hK2 => ?_
  refine W.seq fun K3 hK3 => ?_
  refine W.region ?_
  refine ops_run 2 (by kernel_rfl) ?_
  refine ops_done (by kernel_rfl) ?_
  refine hK3 _ _ ?_
  clear hK3
  refine W.cond_false false (by kernel_rfl) rfl ?_
  refine W.skip ?_
  refine hK2 _ _ ?_
  clear hK2
  refine W.seq fun K4 hK4 => ?_
  refine W.seq fun K5 hK5 => ?_
  refine W.region ?_
  refine ops_run 2 (by kernel_rfl) ?_
  refine ops_call (pre := []) hs1 (by kernel_rfl) (has_spec (p := ptr x.b) (img := img) (l := l) (at_ := at_) (hv := ⟨x, rfl, hok, hs1.heapAt 0 rfl, St.kcells kU64 hs1 1 rfl, hs1.mapAt 2 rfl, St.kcells kInt hs1 3 rfl, St.capnil kU64 hs1 1 rfl⟩) B _) ?_
  rintro _ _ w6 ⟨rfl, rfl⟩ hs7
  have hs8 : St B w l0 w6 [blk x.b (.cells [(.slice x.ia img.length x.ic), (.map (some x.mb)), (.slice x.oa ((l.map (·.1)).length) x.oc)].toArray 163 (0, 0)), kU64.row x.ia x.ic img, mapA x.mb l, kInt.row x.oa x.oc (l.map (·.1))] := hs7
  refine ops_run 1 (by kernel_rfl) ?_
  refine ops_done (by kernel_rfl) ?_
  refine hK5 _ _ ?_
  clear hK5
  refine W.cond (!(decide (0 ≤ at_ ∧ at_ < (img.length : Int)))) (by kernel_rfl) (fun h9 => ?_) (fun h9 => ?_)
  ·
    have h9p : ¬ (0 ≤ at_ ∧ at_ < (img.length : Int)) := of_decide_eq_false (bnot_true h9)
    refine W.seq fun K10 hK10 => ?_
    refine W.region ?_
    refine ops_run 1 (by kernel_rfl) ?_
    refine ops_done (by kernel_rfl) ?_
    refine hK10 _ _ ?_
    clear hK10
    refine W.ret (ret_seq ?_)
    refine ret_of (.int .i64 8) (by kernel_rfl) ⟨_, ⟨?_, rfl⟩, ?_⟩
    · simp only [vput]; rw [if_neg (by omega)]
    · simp only [vput]; rw [if_neg (by omega)]; exact view_close hok hs8
  ·
    have h9p : 0 ≤ at_ ∧ at_ < (img.length : Int) := of_decide_eq_true (bnot_false h9)
    refine W.skip ?_
    refine hK4 _ _ ?_
    clear hK4
    refine W.seq fun K11 hK11 => ?_
    refine W.seq fun K12 hK12 => ?_
    refine W.region ?_
    refine ops_run 3 (by kernel_rfl) ?_
    refine ops_R (runs_load (ad := ⟨x.b, 1, none⟩) (v := (.map (some x.mb))) (by kernel_rfl) (hs8.cellAt 0 rfl rfl)) ?_
    refine ops_run 1 (by kernel_rfl) ?_
    refine ops_R (v := (.tuple #[(.int .u64 ((vlook l at_).getD 0)), (.bool ((vlook l at_).isSome))])) (runs_lookup (k := at_) (ok := true) (hs8.mapAt 2 rfl) (by kernel_rfl)) ?_
    refine ops_run 5 (by kernel_rfl) ?_
    refine ops_done (by kernel_rfl) ?_
    refine hK12 _ _ ?_
    clear hK12
    refine W.seq fun K13 hK13 => ?_
    refine W.region ?_
    refine ops_run 2 (by kernel_rfl) ?_
    refine ops_done (by kernel_rfl) ?_
    refine hK13 _ _ ?_
    clear hK13
    refine W.cond (!((vlook l at_).isSome)) (by kernel_rfl) (fun h14 => ?_) (fun h14 => ?_)
    ·
      have h14p : ((vlook l at_).isSome) = false := (bnot_true h14)
      refine W.seq fun K15 hK15 => ?_
      refine W.seq fun K16 hK16 => ?_
      refine W.region ?_
      refine ops_run 3 (by kernel_rfl) ?_
      refine ops_R (runs_load (ad := ⟨x.b, 2, none⟩) (v := (.slice x.oa ((l.map (·.1)).length) x.oc)) (by kernel_rfl) (hs8.cellAt 0 rfl rfl)) ?_
      refine ops_run 2 (by kernel_rfl) ?_
      refine ops_done (by kernel_rfl) ?_
      refine hK16 _ _ ?_
      clear hK16
      refine W.cond (decide ((((l.map (·.1)).length) : Int) ≥ 96)) (by kernel_rfl) (fun h17 => ?_) (fun h17 => ?_)
      ·
        have h17p : (((l.map (·.1)).length) : Int) ≥ 96 := of_decide_eq_true h17
        refine W.seq fun K18 hK18 => ?_
        refine W.region ?_
        refine ops_run 1 (by kernel_rfl) ?_
        refine ops_done (by kernel_rfl) ?_
        refine hK18 _ _ ?_
        clear hK18
        refine W.ret (ret_seq (ret_seq ?_))
        have hn : vlook l at_ = none := by cases hq : vlook l at_ <;> simp_all
        have hmany : 96 ≤ l.length := by omega
        have e : vput img l at_ x_ = (5, l) := by simp only [vput]; rw [if_pos (by omega), hn]; exact if_pos hmany
        refine ret_of (.int .i64 5) (by kernel_rfl) ⟨_, ⟨by rw [e], rfl⟩, ?_⟩
        rw [e]; exact view_close (l := l) hok hs8
      ·
        have h17p : ¬ ((((l.map (·.1)).length) : Int) ≥ 96) := of_decide_eq_false h17
        refine W.skip ?_
        refine hK15 _ _ ?_
        clear hK15
        refine W.region ?_
        refine ops_run 4 (by kernel_rfl) ?_
        refine ops_R (runs_load (ad := ⟨x.b, 2, none⟩) (v := (.slice x.oa ((l.map (·.1)).length) x.oc)) (by kernel_rfl) (hs8.cellAt 0 rfl rfl)) ?_
        refine ops_run 1 (by kernel_rfl) ?_
        refine ops_new (fun b => .slice (some ⟨b, 0, none⟩) 1 1) (.cells [(.int .i64 at_)].toArray 3 (0, 0)) hs8 (by kernel_rfl) (fun b21 w19 hs20 => ?_)
        have hs22 : St B w l0 w19 [kInt.row x.oa x.oc (l.map (·.1)), blk b21 (.cells [(.int .i64 at_)].toArray 3 (0, 0)), blk x.b (.cells [(.slice x.ia img.length x.ic), (.map (some x.mb)), (.slice x.oa ((l.map (·.1)).length) x.oc)].toArray 163 (0, 0)), kU64.row x.ia x.ic img, mapA x.mb l] := hs20.front 4 (by simp)
        refine ops_appendK kInt (bytes := 8) (a' := (some ⟨b21, 0, none⟩)) (c' := 1) (l := (l.map (·.1))) (m := [at_]) hs22 (by kernel_rfl) (by simp) (cells_blk (hs22.heapAt 1 rfl)) (by (unfold maxLen; try simp) <;> omega) (by (try simp) <;> omega) (fun a23 c24 w25 hs26 => ?_)
        refine ops_run 2 (by kernel_rfl) ?_
        have hs29 : St B w l0 w25 [blk x.b (.cells [(.slice x.ia img.length x.ic), (.map (some x.mb)), (.slice x.oa ((l.map (·.1)).length) x.oc)].toArray 163 (0, 0)), kInt.row a23 c24 ((l.map (·.1)) ++ [at_]), blk b21 (.cells [(.int .i64 at_)].toArray 3 (0, 0)), kU64.row x.ia x.ic img, mapA x.mb l] := hs26.front 2 (by simp)
        refine ops_store (off := 2) (cs := [(.slice x.ia img.length x.ic), (.map (some x.mb)), (.slice x.oa ((l.map (·.1)).length) x.oc)]) (vs := [(.slice a23 (((l.map (·.1)) ++ [at_]).length) c24)]) hs29 (by kernel_rfl) (by simp) rfl (fun w27 hs28 => ?_)
        have hs30 : St B w l0 w27 [blk x.b (.cells [(.slice x.ia img.length x.ic), (.map (some x.mb)), (.slice a23 (((l.map (·.1)) ++ [at_]).length) c24)].toArray 163 (0, 0)), kInt.row a23 c24 ((l.map (·.1)) ++ [at_]), blk b21 (.cells [(.int .i64 at_)].toArray 3 (0, 0)), kU64.row x.ia x.ic img, mapA x.mb l] := hs28
        refine ops_done (by kernel_rfl) ?_
        refine hK11 _ _ ?_
        clear hK11
        refine W.seq fun K31 hK31 => ?_
        refine W.region ?_
        refine ops_run 3 (by kernel_rfl) ?_
        refine ops_R (runs_load (ad := ⟨x.b, 1, none⟩) (v := (.map (some x.mb))) (by kernel_rfl) (hs30.cellAt 0 rfl rfl)) ?_
        refine ops_run 2 (by kernel_rfl) ?_
        have hs32 : St B w l0 w27 [mapA x.mb l, blk x.b (.cells [(.slice x.ia img.length x.ic), (.map (some x.mb)), (.slice a23 (((l.map (·.1)) ++ [at_]).length) c24)].toArray 163 (0, 0)), kInt.row a23 c24 ((l.map (·.1)) ++ [at_]), blk b21 (.cells [(.int .i64 at_)].toArray 3 (0, 0)), kU64.row x.ia x.ic img] := hs30.front 4 (by simp)
        refine ops_mapUpdate (k := at_) (v := x_) hs32 hok.keys (by kernel_rfl) (fun w33 hs34 => ?_)
        refine ops_done (by kernel_rfl) ?_
        refine hK31 _ _ ?_
        clear hK31
        refine W.seq fun K35 hK35 => ?_
        refine W.region ?_
        refine ops_run 1 (by kernel_rfl) ?_
        refine ops_done (by kernel_rfl) ?_
        refine hK35 _ _ ?_
        clear hK35
        refine W.ret ?_
        have hs36 : St B w l0 w33 [kInt.row a23 c24 ((l.map (·.1)) ++ [at_]), mapA x.mb (vset l at_ x_), blk x.b (.cells [(.slice x.ia img.length x.ic), (.map (some x.mb)), (.slice a23 (((l.map (·.1)) ++ [at_]).length) c24)].toArray 163 (0, 0)), blk b21 (.cells [(.int .i64 at_)].toArray 3 (0, 0)), kU64.row x.ia x.ic img] := hs34.front 2 (by simp)
        have hs37 : St B w l0 w33 [mapA x.mb (vset l at_ x_), kInt.row a23 c24 ((l.map (·.1)) ++ [at_]), blk x.b (.cells [(.slice x.ia img.length x.ic), (.map (some x.mb)), (.slice a23 (((l.map (·.1)) ++ [at_]).length) c24)].toArray 163 (0, 0)), blk b21 (.cells [(.int .i64 at_)].toArray 3 (0, 0)), kU64.row x.ia x.ic img] := hs36.front 1 (by simp)
        have hs38 : St B w l0 w33 [kU64.row x.ia x.ic img, mapA x.mb (vset l at_ x_), kInt.row a23 c24 ((l.map (·.1)) ++ [at_]), blk x.b (.cells [(.slice x.ia img.length x.ic), (.map (some x.mb)), (.slice a23 (((l.map (·.1)) ++ [at_]).length) c24)].toArray 163 (0, 0)), blk b21 (.cells [(.int .i64 at_)].toArray 3 (0, 0))] := hs37.front 4 (by simp)
        have hs39 : St B w l0 w33 [blk x.b (.cells [(.slice x.ia img.length x.ic), (.map (some x.mb)), (.slice a23 (((l.map (·.1)) ++ [at_]).length) c24)].toArray 163 (0, 0)), kU64.row x.ia x.ic img, mapA x.mb (vset l at_ x_), kInt.row a23 c24 ((l.map (·.1)) ++ [at_]), blk b21 (.cells [(.int .i64 at_)].toArray 3 (0, 0))] := hs38.front 3 (by simp)
        have hs40 : St B w l0 w33 [blk x.b (.cells [(.slice x.ia img.length x.ic), (.map (some x.mb)), (.slice a23 (((l.map (·.1)) ++ [at_]).length) c24)].toArray 163 (0, 0)), kU64.row x.ia x.ic img, mapA x.mb (vset l at_ x_), kInt.row a23 c24 ((l.map (·.1)) ++ [at_])] := St.take (H := [blk x.b (.cells [(.slice x.ia img.length x.ic), (.map (some x.mb)), (.slice a23 (((l.map (·.1)) ++ [at_]).length) c24)].toArray 163 (0, 0)), kU64.row x.ia x.ic img, mapA x.mb (vset l at_ x_), kInt.row a23 c24 ((l.map (·.1)) ++ [at_])]) hs39
        have hn : vlook l at_ = none := by cases hq : vlook l at_ <;> simp_all
        have hmany : l.length < 96 := by omega
        have e : vput img l at_ x_ = (0, vset l at_ x_) := by simp only [vput]; rw [if_pos (by omega), hn]; exact if_neg (by omega)
        have ek : l.map (·.1) ++ [at_] = (vset l at_ x_).map (·.1) := by rw [vset_none hn]; simp
        rw [ek] at hs40
        refine ret_of (.int .i64 0) (by kernel_rfl) ⟨_, ⟨by rw [e], rfl⟩, ?_⟩
        rw [e]; exact view_close (l := vset l at_ x_) (ia := x.ia) (ic := x.ic) (mb := x.mb) (oa := a23) (oc := c24) (hok.put (by omega) (.inr hmany)) hs40
    ·
      have h14p : ((vlook l at_).isSome) = true := (bnot_false h14)
      refine W.skip ?_
      refine hK11 _ _ ?_
      clear hK11
      refine W.seq fun K41 hK41 => ?_
      refine W.region ?_
      refine ops_run 3 (by kernel_rfl) ?_
      refine ops_R (runs_load (ad := ⟨x.b, 1, none⟩) (v := (.map (some x.mb))) (by kernel_rfl) (hs8.cellAt 0 rfl rfl)) ?_
      refine ops_run 2 (by kernel_rfl) ?_
      have hs42 : St B w l0 w6 [mapA x.mb l, blk x.b (.cells [(.slice x.ia img.length x.ic), (.map (some x.mb)), (.slice x.oa ((l.map (·.1)).length) x.oc)].toArray 163 (0, 0)), kU64.row x.ia x.ic img, kInt.row x.oa x.oc (l.map (·.1))] := hs8.front 2 (by simp)
      refine ops_mapUpdate (k := at_) (v := x_) hs42 hok.keys (by kernel_rfl) (fun w43 hs44 => ?_)
      refine ops_done (by kernel_rfl) ?_
      refine hK41 _ _ ?_
      clear hK41
      refine W.seq fun K45 hK45 => ?_
      refine W.region ?_
      refine ops_run 1 (by kernel_rfl) ?_
      refine ops_done (by kernel_rfl) ?_
      refine hK45 _ _ ?_
      clear hK45
      refine W.ret ?_
      have hs46 : St B w l0 w43 [kInt.row x.oa x.oc (l.map (·.1)), mapA x.mb (vset l at_ x_), blk x.b (.cells [(.slice x.ia img.length x.ic), (.map (some x.mb)), (.slice x.oa ((l.map (·.1)).length) x.oc)].toArray 163 (0, 0)), kU64.row x.ia x.ic img] := hs44.front 3 (by simp)
      have hs47 : St B w l0 w43 [mapA x.mb (vset l at_ x_), kInt.row x.oa x.oc (l.map (·.1)), blk x.b (.cells [(.slice x.ia img.length x.ic), (.map (some x.mb)), (.slice x.oa ((l.map (·.1)).length) x.oc)].toArray 163 (0, 0)), kU64.row x.ia x.ic img] := hs46.front 1 (by simp)
      have hs48 : St B w l0 w43 [kU64.row x.ia x.ic img, mapA x.mb (vset l at_ x_), kInt.row x.oa x.oc (l.map (·.1)), blk x.b (.cells [(.slice x.ia img.length x.ic), (.map (some x.mb)), (.slice x.oa ((l.map (·.1)).length) x.oc)].toArray 163 (0, 0))] := hs47.front 3 (by simp)
      have hs49 : St B w l0 w43 [blk x.b (.cells [(.slice x.ia img.length x.ic), (.map (some x.mb)), (.slice x.oa ((l.map (·.1)).length) x.oc)].toArray 163 (0, 0)), kU64.row x.ia x.ic img, mapA x.mb (vset l at_ x_), kInt.row x.oa x.oc (l.map (·.1))] := hs48.front 3 (by simp)
      have hn : (vlook l at_).isSome = true := by simp_all
      have e : vput img l at_ x_ = (0, vset l at_ x_) := by simp only [vput]; rw [if_pos (by omega)]; cases hq : vlook l at_ <;> simp_all
      have ek : l.map (·.1) = (vset l at_ x_).map (·.1) := (vset_keys_some hn).symm
      rw [ek] at hs49
      refine ret_of (.int .i64 0) (by kernel_rfl) ⟨_, ⟨by rw [e], rfl⟩, ?_⟩
      rw [e]; exact view_close (l := vset l at_ x_) (ia := x.ia) (ic := x.ic) (mb := x.mb) (oa := x.oa) (oc := x.oc) (hok.put (by omega) (.inl hn)) hs49

end Go.Proofs.YthimamnblklkbaaDoor
