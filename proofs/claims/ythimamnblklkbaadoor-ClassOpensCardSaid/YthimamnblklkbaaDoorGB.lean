/- Texts of one kind, one behind the other: F5a, F5b, F5c, F5d, F5e, F5f, F5g. -/
import Derived.Test.YthimamnblklkbaaDoorGA
set_option linter.unusedVariables false
set_option linter.unusedSimpArgs false
/- Contracts of the functions of view, by a program. -/
namespace Go.Proofs.YthimamnblklkbaaDoor
open Go Go.RowKit
set_option linter.unusedSimpArgs false
set_option linter.unusedVariables false

set_option maxRecDepth 20000 in
theorem len_spec {p : Value} {img : List Int} {l : List (Int × Int)} (B : Nat) (w : World) (hv : ViewAt p img l w) : Spec Tryd.prog 90 #[p] B w [] (fun v H' => v = .int .i64 (img.length : Int) ∧ H' = []) := by
  refine spec_Q Tryd.func90 rfl fun hs => ?_
  have hv0 := hv
  obtain ⟨x, rfl, hok, hb, hi, hm, ho, hcap⟩ := hv
  refine W.seq fun K1 hK1 => ?_
  refine W.region ?_
  refine ops_run 1 (by kernel_rfl) ?_
  refine ops_done (by kernel_rfl) ?_
  refine hK1 _ _ ?_
  clear hK1
  refine W.seq fun K2 hK2 => ?_
  refine W.seq fun K3 hK3 => ?_
  refine W.region ?_
  refine ops_run 2 (by kernel_rfl) ?_
  refine ops_done (by kernel_rfl) ?_
  refine hK3 _ _ ?_
  clear hK3
  refine W.cond_false false (by kernel_rfl) rfl ?_
  refine W.skip ?_
  refine hK2 _ _ ?_
  clear hK2
  refine W.seq fun K4 hK4 => ?_
  refine W.region ?_
  refine ops_run 3 (by kernel_rfl) ?_
  refine ops_R (runs_load (ad := ⟨x.b, 0, none⟩) (v := (.slice x.ia img.length x.ic)) (by kernel_rfl) (cell_of_blk (hs.old hb) rfl)) ?_
  refine ops_run 2 (by kernel_rfl) ?_
  refine ops_done (by kernel_rfl) ?_
  refine hK4 _ _ ?_
  clear hK4
  refine W.ret ?_
  refine ret_of (.int .i64 (img.length : Int)) (by kernel_rfl) ⟨_, ?_, hs⟩
  exact ⟨rfl, rfl⟩

set_option maxRecDepth 20000 in
theorem has_spec {p : Value} {img : List Int} {l : List (Int × Int)} {at_ : Int} (B : Nat) (w : World) (hv : ViewAt p img l w) : Spec Tryd.prog 98 #[p, (.int .i64 at_)] B w [] (fun v H' => v = .bool (decide (0 ≤ at_ ∧ at_ < (img.length : Int))) ∧ H' = []) := by
  refine spec_Q Tryd.func98 rfl fun hs => ?_
  have hv0 := hv
  obtain ⟨x, rfl, hok, hb, hi, hm, ho, hcap⟩ := hv
  refine W.seq fun K1 hK1 => ?_
  refine W.region ?_
  refine ops_run 1 (by kernel_rfl) ?_
  refine ops_done (by kernel_rfl) ?_
  refine hK1 _ _ ?_
  clear hK1
  refine W.seq fun K2 hK2 => ?_
  refine W.region ?_
  refine ops_run 3 (by kernel_rfl) ?_
  rcases Bool.eq_false_or_eq_true (decide (at_ ≥ 0)) with h3 | h3
  ·
    have h3p : at_ ≥ 0 := of_decide_eq_true h3
    refine ops_set 7 (v := .bool true) (eq_bool_of (by kernel_rfl) h3) ?_
    refine ops_set 6 (v := .bool true) (eq_bool_of (by kernel_rfl) h3) ?_
    refine ops_run 2 (by kernel_rfl) ?_
    refine ops_call0 hs (by kernel_rfl) (len_spec (hv := (viewAt_old hs hv0)) B _) ?_
    rintro _ _ w4 ⟨rfl, rfl⟩ hs5
    have hs6 := St.ap0 hs5
    refine ops_run 3 (by kernel_rfl) ?_
    refine ops_done (by kernel_rfl) ?_
    refine hK2 _ _ ?_
    clear hK2
    refine W.ret ?_
    refine ret_of (.bool (decide (at_ < (img.length : Int)))) (by kernel_rfl) ⟨_, ?_, hs6⟩
    exact ⟨congrArg Value.bool (decide_eq_decide.2 (by omega)), rfl⟩
  ·
    have h3p : ¬ (at_ ≥ 0) := of_decide_eq_false h3
    refine ops_set 7 (v := .bool false) (eq_bool_of (by kernel_rfl) h3) ?_
    refine ops_set 6 (v := .bool false) (eq_bool_of (by kernel_rfl) h3) ?_
    refine ops_run 6 (by kernel_rfl) ?_
    refine ops_done (by kernel_rfl) ?_
    refine hK2 _ _ ?_
    clear hK2
    refine W.ret ?_
    refine ret_of (.bool false) (by kernel_rfl) ⟨_, ?_, hs⟩
    exact ⟨congrArg Value.bool (decide_eq_false (by omega)).symm, rfl⟩

set_option maxRecDepth 20000 in
theorem get_spec {p : Value} {img : List Int} {l : List (Int × Int)} {at_ : Int} (B : Nat) (w : World) (hv : ViewAt p img l w) : Spec Tryd.prog 28 #[p, (.int .i64 at_)] B w [] (fun v H' => v = .int .u64 (vget img l at_) ∧ H' = []) := by
  refine spec_Q Tryd.func28 rfl fun hs => ?_
  have hv0 := hv
  obtain ⟨x, rfl, hok, hb, hi, hm, ho, hcap⟩ := hv
  refine W.seq fun K1 hK1 => ?_
  refine W.region ?_
  refine ops_run 1 (by kernel_rfl) ?_
  refine ops_done (by kernel_rfl) ?_
  refine hK1 _ _ ?_
  clear hK1
  refine W.seq fun K2 hK2 => ?_
  refine W.seq fun K3 hK3 => ?_
  refine W.region ?_
  refine ops_run 2 (by kernel_rfl) ?_
  refine ops_call0 hs (by kernel_rfl) (has_spec (at_ := at_) (hv := (viewAt_old hs hv0)) B _) ?_
  rintro _ _ w4 ⟨rfl, rfl⟩ hs5
  have hs6 := St.ap0 hs5
  refine ops_run 1 (by kernel_rfl) ?_
  refine ops_done (by kernel_rfl) ?_
  refine hK3 _ _ ?_
  clear hK3
  refine W.cond (!(decide (0 ≤ at_ ∧ at_ < (img.length : Int)))) (by kernel_rfl) (fun h7 => ?_) (fun h7 => ?_)
  ·
    have h7p : ¬ (0 ≤ at_ ∧ at_ < (img.length : Int)) := of_decide_eq_false (bnot_true h7)
    refine W.seq fun K8 hK8 => ?_
    refine W.region ?_
    refine ops_run 1 (by kernel_rfl) ?_
    refine ops_done (by kernel_rfl) ?_
    refine hK8 _ _ ?_
    clear hK8
    refine W.ret (ret_seq ?_)
    refine ret_of (.int .u64 0) (by kernel_rfl) ⟨_, ?_, hs6⟩
    exact ⟨by simp only [vget]; rw [if_neg (by omega)], rfl⟩
  ·
    have h7p : 0 ≤ at_ ∧ at_ < (img.length : Int) := of_decide_eq_true (bnot_false h7)
    refine W.skip ?_
    refine hK2 _ _ ?_
    clear hK2
    refine W.seq fun K9 hK9 => ?_
    refine W.seq fun K10 hK10 => ?_
    refine W.region ?_
    refine ops_run 3 (by kernel_rfl) ?_
    refine ops_R (runs_load (ad := ⟨x.b, 1, none⟩) (v := (.map (some x.mb))) (by kernel_rfl) (cell_of_blk (hs6.old hb) rfl)) ?_
    refine ops_run 1 (by kernel_rfl) ?_
    refine ops_R (v := (.tuple #[(.int .u64 ((vlook l at_).getD 0)), (.bool ((vlook l at_).isSome))])) (runs_lookup (k := at_) (ok := true) (hs6.oldMap hm) (by kernel_rfl)) ?_
    refine ops_run 5 (by kernel_rfl) ?_
    refine ops_done (by kernel_rfl) ?_
    refine hK10 _ _ ?_
    clear hK10
    refine W.seq fun K11 hK11 => ?_
    refine W.region ?_
    refine ops_run 1 (by kernel_rfl) ?_
    refine ops_done (by kernel_rfl) ?_
    refine hK11 _ _ ?_
    clear hK11
    refine W.cond ((vlook l at_).isSome) (by kernel_rfl) (fun h12 => ?_) (fun h12 => ?_)
    ·
      have h12p : ((vlook l at_).isSome) = true := h12
      refine W.seq fun K13 hK13 => ?_
      refine W.region ?_
      refine ops_run 2 (by kernel_rfl) ?_
      refine ops_done (by kernel_rfl) ?_
      refine hK13 _ _ ?_
      clear hK13
      refine W.ret (ret_seq ?_)
      refine ret_of (.int .u64 ((vlook l at_).getD 0)) (by kernel_rfl) ⟨_, ?_, hs6⟩
      exact ⟨congrArg (Value.int .u64) (by simp only [vget]; rw [if_pos (by omega)]; cases hq : vlook l at_ <;> simp_all), rfl⟩
    ·
      have h12p : ((vlook l at_).isSome) = false := h12
      refine W.skip ?_
      refine hK9 _ _ ?_
      clear hK9
      refine W.seq fun K14 hK14 => ?_
      refine W.region ?_
      refine ops_run 3 (by kernel_rfl) ?_
      refine ops_R (runs_load (ad := ⟨x.b, 0, none⟩) (v := (.slice x.ia img.length x.ic)) (by kernel_rfl) (cell_of_blk (hs6.old hb) rfl)) ?_
      refine ops_run 1 (by kernel_rfl) ?_
      have hk15 : at_.toNat < img.length := by omega
      refine ops_R (runs_index (a := x.ia) (n := img.length) (z := at_) (size := 1) at_.toNat (by omega) hk15 (kU64.addr (hs6.oldCells hi) hk15) (by kernel_rfl)) ?_
      refine ops_R (runs_load (ad := ((adr x.ia (at_.toNat * 1)).add 0)) (v := (.int .u64 (img.getD at_.toNat 0))) (by kernel_rfl) (kU64.at (hs6.oldCells hi) hk15 0 0 rfl)) ?_
      refine ops_run 1 (by kernel_rfl) ?_
      refine ops_done (by kernel_rfl) ?_
      refine hK14 _ _ ?_
      clear hK14
      refine W.ret ?_
      refine ret_of (.int .u64 (img.getD at_.toNat 0)) (by kernel_rfl) ⟨_, ?_, hs6⟩
      exact ⟨congrArg (Value.int .u64) (by simp only [vget]; rw [if_pos (by omega)]; cases hq : vlook l at_ <;> simp_all), rfl⟩

set_option maxRecDepth 20000 in
theorem put_spec {p : Value} {img : List Int} {l : List (Int × Int)} {at_ x_ : Int} (B : Nat) (w : World) : Spec Tryd.prog 95 #[p, (.int .i64 at_), (.int .u64 x_)] B w [viewA p img l] (fun v H' => v = .int .i64 (vput img l at_ x_).1 ∧ H' = [viewA p img (vput img l at_ x_).2]) := by
  refine spec_W Tryd.func95 rfl fun l0 hs => ?_
  have hv0 := hs.entAt 0 rfl viewA_at
  obtain ⟨x, ⟨rfl, hok⟩, hs0⟩ := St.open hs
  have hs1 : St B w l0 w [blk x.b (.cells [(.slice x.ia img.length x.ic), (.map (some x.mb)), (.slice x.oa ((l.map (·.1)).length) x.oc)].toArray 163 (0, 0)), kU64.row x.ia x.ic img, mapA x.mb l, kInt.row x.oa x.oc (l.map (·.1))] := hs0
  have hlm : (l.map (·.1)).length = l.length := List.length_map _
  have hroom := hok.many
  refine W.seq fun K1 hK1 => ?_
  refine W.region ?_
  refine ops_run 1 (by kernel_rfl) ?_
  refine ops_done (by kernel_rfl) ?_
  refine hK1 _ _ ?_
  clear hK1
  refine W.seq fun K2 hK2 => ?_
  refine W.seq fun K3 hK3 => ?_
  refine W.region ?_
  refine ops_run 2 (by kernel_rfl) ?_
  refine ops_done (by kernel_rfl) ?_
  refine hK3 _ _ ?_
  clear hK3
  refine W.cond_false false (by kernel_rfl) rfl ?_
  refine W.skip ?_
  refine hK2 _ _ ?_
  clear hK2
  refine W.seq fun K4 hK4 => ?_
  refine W.seq fun K5 hK5 => ?_
  refine W.region ?_
  refine ops_run 2 (by kernel_rfl) ?_
  refine ops_call0 hs1 (by kernel_rfl) (has_spec (p := ptr x.b) (img := img) (l := l) (at_ := at_) (hv := ⟨x, rfl, hok, hs1.heapAt 0 rfl, St.kcells kU64 hs1 1 rfl, hs1.mapAt 2 rfl, St.kcells kInt hs1 3 rfl, St.capnil kU64 hs1 1 rfl⟩) B _) ?_
  rintro _ _ w6 ⟨rfl, rfl⟩ hs7
  have hs8 := St.ap0 hs7
  refine ops_run 1 (by kernel_rfl) ?_
  refine ops_done (by kernel_rfl) ?_
  refine hK5 _ _ ?_
  clear hK5
  refine W.cond (!(decide (0 ≤ at_ ∧ at_ < (img.length : Int)))) (by kernel_rfl) (fun h9 => ?_) (fun h9 => ?_)
  ·
    have h9p : ¬ (0 ≤ at_ ∧ at_ < (img.length : Int)) := of_decide_eq_false (bnot_true h9)
    refine W.seq fun K10 hK10 => ?_
    refine W.region ?_
    refine ops_run 1 (by kernel_rfl) ?_
    refine ops_done (by kernel_rfl) ?_
    refine hK10 _ _ ?_
    clear hK10
    refine W.ret (ret_seq ?_)
    refine ret_of (.int .i64 8) (by kernel_rfl) ⟨_, ⟨?_, rfl⟩, ?_⟩
    · simp only [vput]; rw [if_neg (by omega)]
    · simp only [vput]; rw [if_neg (by omega)]; exact view_close hok hs8
  ·
    have h9p : 0 ≤ at_ ∧ at_ < (img.length : Int) := of_decide_eq_true (bnot_false h9)
    refine W.skip ?_
    refine hK4 _ _ ?_
    clear hK4
    refine W.seq fun K11 hK11 => ?_
    refine W.seq fun K12 hK12 => ?_
    refine W.region ?_
    refine ops_run 3 (by kernel_rfl) ?_
    refine ops_R (runs_load (ad := ⟨x.b, 1, none⟩) (v := (.map (some x.mb))) (by kernel_rfl) (hs8.cellAt 0 rfl rfl)) ?_
    refine ops_run 1 (by kernel_rfl) ?_
    refine ops_R (v := (.tuple #[(.int .u64 ((vlook l at_).getD 0)), (.bool ((vlook l at_).isSome))])) (runs_lookup (k := at_) (ok := true) (hs8.mapAt 2 rfl) (by kernel_rfl)) ?_
    refine ops_run 5 (by kernel_rfl) ?_
    refine ops_done (by kernel_rfl) ?_
    refine hK12 _ _ ?_
    clear hK12
    refine W.seq fun K13 hK13 => ?_
    refine W.region ?_
    refine ops_run 2 (by kernel_rfl) ?_
    refine ops_done (by kernel_rfl) ?_
    refine hK13 _ _ ?_
    clear hK13
    refine W.cond (!((vlook l at_).isSome)) (by kernel_rfl) (fun h14 => ?_) (fun h14 => ?_)
    ·
      have h14p : ((vlook l at_).isSome) = false := (bnot_true h14)
      refine W.seq fun K15 hK15 => ?_
      refine W.seq fun K16 hK16 => ?_
      refine W.region ?_
      refine ops_run 3 (by kernel_rfl) ?_
      refine ops_R (runs_load (ad := ⟨x.b, 2, none⟩) (v := (.slice x.oa ((l.map (·.1)).length) x.oc)) (by kernel_rfl) (hs8.cellAt 0 rfl rfl)) ?_
      refine ops_run 2 (by kernel_rfl) ?_
      refine ops_done (by kernel_rfl) ?_
      refine hK16 _ _ ?_
      clear hK16
      refine W.cond (decide ((((l.map (·.1)).length) : Int) ≥ 96)) (by kernel_rfl) (fun h17 => ?_) (fun h17 => ?_)
      ·
        have h17p : (((l.map (·.1)).length) : Int) ≥ 96 := of_decide_eq_true h17
        refine W.seq fun K18 hK18 => ?_
        refine W.region ?_
        refine ops_run 1 (by kernel_rfl) ?_
        refine ops_done (by kernel_rfl) ?_
        refine hK18 _ _ ?_
        clear hK18
        refine W.ret (ret_seq (ret_seq ?_))
        have hn : vlook l at_ = none := by cases hq : vlook l at_ <;> simp_all
        have hmany : 96 ≤ l.length := by omega
        have e : vput img l at_ x_ = (5, l) := by simp only [vput]; rw [if_pos (by omega), hn]; exact if_pos hmany
        refine ret_of (.int .i64 5) (by kernel_rfl) ⟨_, ⟨by rw [e], rfl⟩, ?_⟩
        rw [e]; exact view_close (l := l) hok hs8
      ·
        have h17p : ¬ ((((l.map (·.1)).length) : Int) ≥ 96) := of_decide_eq_false h17
        refine W.skip ?_
        refine hK15 _ _ ?_
        clear hK15
        refine W.region ?_
        refine ops_run 4 (by kernel_rfl) ?_
        refine ops_R (runs_load (ad := ⟨x.b, 2, none⟩) (v := (.slice x.oa ((l.map (·.1)).length) x.oc)) (by kernel_rfl) (hs8.cellAt 0 rfl rfl)) ?_
        refine ops_run 1 (by kernel_rfl) ?_
        refine ops_new (fun b => .slice (some ⟨b, 0, none⟩) 1 1) (.cells [(.int .i64 at_)].toArray 3 (0, 0)) hs8 (by kernel_rfl) (fun b21 w19 hs20 => ?_)
        have hs22 := St.f4 hs20
        refine ops_appendK kInt (bytes := 8) (a' := (some ⟨b21, 0, none⟩)) (c' := 1) (l := (l.map (·.1))) (m := [at_]) hs22 (by kernel_rfl) (by simp) (cells_blk (hs22.heapAt 1 rfl)) (by (unfold maxLen; try simp) <;> omega) (by (try simp) <;> omega) (fun a23 c24 w25 hs26 => ?_)
        refine ops_run 2 (by kernel_rfl) ?_
        have hs29 := St.f2 hs26
        refine ops_store (off := 2) (cs := [(.slice x.ia img.length x.ic), (.map (some x.mb)), (.slice x.oa ((l.map (·.1)).length) x.oc)]) (vs := [(.slice a23 (((l.map (·.1)) ++ [at_]).length) c24)]) hs29 (by kernel_rfl) (by simp) rfl (fun w27 hs28 => ?_)
        have hs30 : St B w l0 w27 [blk x.b (.cells [(.slice x.ia img.length x.ic), (.map (some x.mb)), (.slice a23 (((l.map (·.1)) ++ [at_]).length) c24)].toArray 163 (0, 0)), kInt.row a23 c24 ((l.map (·.1)) ++ [at_]), blk b21 (.cells [(.int .i64 at_)].toArray 3 (0, 0)), kU64.row x.ia x.ic img, mapA x.mb l] := hs28
        refine ops_done (by kernel_rfl) ?_
        refine hK11 _ _ ?_
        clear hK11
        refine W.seq fun K31 hK31 => ?_
        refine W.region ?_
        refine ops_run 3 (by kernel_rfl) ?_
        refine ops_R (runs_load (ad := ⟨x.b, 1, none⟩) (v := (.map (some x.mb))) (by kernel_rfl) (hs30.cellAt 0 rfl rfl)) ?_
        refine ops_run 2 (by kernel_rfl) ?_
        have hs32 := St.f4 hs30
        refine ops_mapUpdate (k := at_) (v := x_) hs32 hok.keys (by kernel_rfl) (fun w33 hs34 => ?_)
        refine ops_done (by kernel_rfl) ?_
        refine hK31 _ _ ?_
        clear hK31
        refine W.seq fun K35 hK35 => ?_
        refine W.region ?_
        refine ops_run 1 (by kernel_rfl) ?_
        refine ops_done (by kernel_rfl) ?_
        refine hK35 _ _ ?_
        clear hK35
        refine W.ret ?_
        have hs36 := St.f2 hs34
        have hs37 := St.f1 hs36
        have hs38 := St.f4 hs37
        have hs39 := St.f3 hs38
        have hs40 := St.tk4 hs39
        have hn : vlook l at_ = none := by cases hq : vlook l at_ <;> simp_all
        have hmany : l.length < 96 := by omega
        have e : vput img l at_ x_ = (0, vset l at_ x_) := by simp only [vput]; rw [if_pos (by omega), hn]; exact if_neg (by omega)
        have ek : l.map (·.1) ++ [at_] = (vset l at_ x_).map (·.1) := by rw [vset_none hn]; simp
        rw [ek] at hs40
        refine ret_of (.int .i64 0) (by kernel_rfl) ⟨_, ⟨by rw [e], rfl⟩, ?_⟩
        rw [e]; exact view_close (l := vset l at_ x_) (ia := x.ia) (ic := x.ic) (mb := x.mb) (oa := a23) (oc := c24) (hok.put (by omega) (.inr hmany)) hs40
    ·
      have h14p : ((vlook l at_).isSome) = true := (bnot_false h14)
      refine W.skip ?_
      refine hK11 _ _ ?_
      clear hK11
      refine W.seq fun K41 hK41 => ?_
      refine W.region ?_
      refine ops_run 3 (by kernel_rfl) ?_
      refine ops_R (runs_load (ad := ⟨x.b, 1, none⟩) (v := (.map (some x.mb))) (by kernel_rfl) (hs8.cellAt 0 rfl rfl)) ?_
      refine ops_run 2 (by kernel_rfl) ?_
      have hs42 := St.f2 hs8
      refine ops_mapUpdate (k := at_) (v := x_) hs42 hok.keys (by kernel_rfl) (fun w43 hs44 => ?_)
      refine ops_done (by kernel_rfl) ?_
      refine hK41 _ _ ?_
      clear hK41
      refine W.seq fun K45 hK45 => ?_
      refine W.region ?_
      refine ops_run 1 (by kernel_rfl) ?_
      refine ops_done (by kernel_rfl) ?_
      refine hK45 _ _ ?_
      clear hK45
      refine W.ret ?_
      have hs46 := St.f3 hs44
      have hs47 := St.f1 hs46
      have hs48 := St.f3 hs47
      have hs49 := St.f3 hs48
      have hn : (vlook l at_).isSome = true := by simp_all
      have e : vput img l at_ x_ = (0, vset l at_ x_) := by simp only [vput]; rw [if_pos (by omega)]; cases hq : vlook l at_ <;> simp_all
      have ek : l.map (·.1) = (vset l at_ x_).map (·.1) := (vset_keys_some hn).symm
      rw [ek] at hs49
      refine ret_of (.int .i64 0) (by kernel_rfl) ⟨_, ⟨by rw [e], rfl⟩, ?_⟩
      rw [e]; exact view_close (l := vset l at_ x_) (ia := x.ia) (ic := x.ic) (mb := x.mb) (oa := x.oa) (oc := x.oc) (hok.put (by omega) (.inl hn)) hs49

end Go.Proofs.YthimamnblklkbaaDoor

/- Contracts of the functions of view, by a program. -/
namespace Go.Proofs.YthimamnblklkbaaDoor
open Go Go.RowKit
set_option linter.unusedSimpArgs false
set_option linter.unusedVariables false

set_option maxRecDepth 20000 in
theorem clone_some {ad : Addr} {c : Nat} {xs : List Int} (B : Nat) (w : World) (hc : CellsAt (some ad) (kU64.cells xs) w) (hsz : xs.length ≤ 17592186044415) : Spec Tryd.prog 97 #[(.slice (some ad) xs.length c)] B w [] (fun v H' => ∃ a' c', v = .slice a' xs.length c' ∧ H' = [kU64.row a' c' xs]) := by
  refine spec_Q Tryd.func97 rfl fun hs => ?_
  refine W.seq fun K1 hK1 => ?_
  refine W.region ?_
  refine ops_run 1 (by kernel_rfl) ?_
  refine ops_done (by kernel_rfl) ?_
  refine hK1 _ _ ?_
  clear hK1
  refine W.seq fun K2 hK2 => ?_
  refine W.seq fun K3 hK3 => ?_
  refine W.region ?_
  refine ops_run 2 (by kernel_rfl) ?_
  refine ops_done (by kernel_rfl) ?_
  refine hK3 _ _ ?_
  clear hK3
  refine W.cond_false false (by kernel_rfl) rfl ?_
  refine W.skip ?_
  refine hK2 _ _ ?_
  clear hK2
  refine W.seq fun K4 hK4 => ?_
  refine W.region ?_
  refine ops_new (fun b => .slice (some ⟨b, 0, none⟩) 0 0) (.cells [].toArray 38 (0, 0)) hs (by kernel_rfl) (fun b7 w5 hs6 => ?_)
  refine ops_run 1 (by kernel_rfl) ?_
  have hs8 : St B w [] w5 [kU64.row (some ⟨b7, 0, none⟩) 0 ([])] := St.kblk kU64 [] hs6 rfl rfl (by simp only [List.length_cons, List.length_nil]; decide)
  refine ops_appendK kU64 (bytes := 8) (a' := (some ad)) (c' := c) (l := []) (m := xs) hs8 (by kernel_rfl) (by simp) (hs8.oldCells hc) (by (unfold maxLen; try simp) <;> omega) (by (try simp) <;> omega) (fun a9 c10 w11 hs12 => ?_)
  have hs13 : St B w [] w11 [kU64.row a9 c10 xs] := hs12
  refine ops_run 1 (by kernel_rfl) ?_
  refine ops_done (by kernel_rfl) ?_
  refine hK4 _ _ ?_
  clear hK4
  refine W.ret ?_
  refine ret_of (.slice a9 xs.length c10) (by kernel_rfl) ⟨_, ?_, hs13⟩
  exact ⟨_, _, rfl, rfl⟩

set_option maxRecDepth 20000 in
theorem clone_nil  (B : Nat) (w : World) : Spec Tryd.prog 97 #[(.slice none 0 0)] B w [] (fun v H' => ∃ a' c', v = .slice a' 0 c' ∧ H' = [kU64.row a' c' []]) := by
  refine spec_Q Tryd.func97 rfl fun hs => ?_
  refine W.seq fun K1 hK1 => ?_
  refine W.region ?_
  refine ops_run 1 (by kernel_rfl) ?_
  refine ops_done (by kernel_rfl) ?_
  refine hK1 _ _ ?_
  clear hK1
  refine W.seq fun K2 hK2 => ?_
  refine W.seq fun K3 hK3 => ?_
  refine W.region ?_
  refine ops_run 2 (by kernel_rfl) ?_
  refine ops_done (by kernel_rfl) ?_
  refine hK3 _ _ ?_
  clear hK3
  refine W.cond_true true (by kernel_rfl) rfl ?_
  refine W.seq fun K4 hK4 => ?_
  refine W.region ?_
  refine ops_run 1 (by kernel_rfl) ?_
  refine ops_done (by kernel_rfl) ?_
  refine hK4 _ _ ?_
  clear hK4
  refine W.ret (ret_seq ?_)
  have hk := St.knil kU64 hs
  refine ret_of (.slice none 0 0) (by kernel_rfl) ⟨_, ⟨none, 0, rfl, rfl⟩, hk⟩

theorem clone_spec {a : Option Addr} {c : Nat} {xs : List Int} (B : Nat) (w : World) (hc : CellsAt a (kU64.cells xs) w) (hn : a = none → c = 0) (hsz : xs.length ≤ 17592186044415) :
    Spec Tryd.prog 97 #[.slice a xs.length c] B w [] (fun v H' => ∃ a' c', v = .slice a' xs.length c' ∧ H' = [kU64.row a' c' xs]) := by
  cases a with
  | some ad => exact clone_some B w hc hsz
  | none =>
    have h1 := cells_none kU64 hc
    have h2 := hn rfl
    subst h1 h2
    exact clone_nil B w

set_option maxRecDepth 20000 in
theorem new_spec {a : Option Addr} {c : Nat} {xs : List Int} (B : Nat) (w : World) (hc : CellsAt a (kU64.cells xs) w) (hn : a = none → c = 0) (hsz : xs.length ≤ 17592186044415) : Spec Tryd.prog 27 #[(.slice a xs.length c)] B w [] (fun v H' => ∃ b, v = ptr b ∧ H' = [viewA (ptr b) xs []]) := by
  refine spec_Q Tryd.func27 rfl fun hs => ?_
  refine W.seq fun K1 hK1 => ?_
  refine W.region ?_
  refine ops_run 1 (by kernel_rfl) ?_
  refine ops_done (by kernel_rfl) ?_
  refine hK1 _ _ ?_
  clear hK1
  refine W.seq fun K2 hK2 => ?_
  refine W.region ?_
  refine ops_run 1 (by kernel_rfl) ?_
  refine ops_call0 hs (by kernel_rfl) (clone_spec (hc := (hs.oldCells hc)) (hn := hn) (hsz := hsz) B _) ?_
  rintro _ _ w5 ⟨a3, c4, rfl, rfl⟩ hs6
  have hs7 := St.ap1 hs6
  refine ops_makeMap hs7 (by kernel_rfl) (fun b10 w8 hs9 => ?_)
  refine ops_run 1 (by kernel_rfl) ?_
  refine ops_new (fun b => .pointer (some ⟨b, 0, none⟩)) (.cells [(.slice a3 xs.length c4), (.map (some b10)), (.slice none 0 0)].toArray 163 (0, 0)) hs9 (by kernel_rfl) (fun b13 w11 hs12 => ?_)
  refine ops_run 1 (by kernel_rfl) ?_
  refine ops_done (by kernel_rfl) ?_
  refine hK2 _ _ ?_
  clear hK2
  refine W.ret ?_
  have hs14 := St.f1 hs12
  have hs15 := St.f2 hs14
  have hs16 := St.f2 hs15
  have hk := St.knil kInt hs16
  have hk2 := hk.perm (H' := [blk b13 (.cells [(.slice a3 xs.length c4), (.map (some b10)), (.slice none 0 0)].toArray 163 (0, 0)), kU64.row a3 c4 xs, mapA b10 ([]), kInt.row none 0 []]) (perm_last _ _)
  refine ret_of (.pointer (some ⟨b13, 0, none⟩)) (by kernel_rfl) ⟨_, ⟨b13, rfl, rfl⟩, ?_⟩
  exact view_close (l := []) (ia := a3) (ic := c4) (mb := b10) (oa := none) (oc := 0) (VOk.nil hsz) hk2

set_option maxRecDepth 20000 in
theorem writes_spec {p : Value} {img : List Int} {l : List (Int × Int)} (B : Nat) (w : World) (hv : ViewAt p img l w) : Spec Tryd.prog 51 #[p] B w [] (fun v H' => ∃ a' c', v = .slice a' l.length c' ∧ H' = [kWr.row a' c' l]) := by
  refine spec_Q Tryd.func51 rfl fun hs => ?_
  have hv0 := hv
  obtain ⟨x, rfl, hok, hb, hi, hm, ho, hcap⟩ := hv
  have hlm : (l.map (·.1)).length = l.length := List.length_map _
  have hroom := hok.many
  refine W.seq fun K1 hK1 => ?_
  refine W.region ?_
  refine ops_run 1 (by kernel_rfl) ?_
  refine ops_done (by kernel_rfl) ?_
  refine hK1 _ _ ?_
  clear hK1
  refine W.seq fun K2 hK2 => ?_
  refine W.seq fun K3 hK3 => ?_
  refine W.region ?_
  refine ops_run 2 (by kernel_rfl) ?_
  refine ops_done (by kernel_rfl) ?_
  refine hK3 _ _ ?_
  clear hK3
  refine W.cond_false false (by kernel_rfl) rfl ?_
  refine W.skip ?_
  refine hK2 _ _ ?_
  clear hK2
  refine W.seq fun K4 hK4 => ?_
  refine W.seq fun K5 hK5 => ?_
  refine W.region ?_
  refine ops_run 3 (by kernel_rfl) ?_
  refine ops_R (runs_load (ad := ⟨x.b, 2, none⟩) (v := (.slice x.oa ((l.map (·.1)).length) x.oc)) (by kernel_rfl) (cell_of_blk (hs.old hb) rfl)) ?_
  refine ops_run 2 (by kernel_rfl) ?_
  refine ops_done (by kernel_rfl) ?_
  refine hK5 _ _ ?_
  clear hK5
  refine W.block ?_
  have hz0 := St.knil kWr hs
  refine W.loop (G := Nat × Option Addr × Nat) (fun | (k, a, c), s_, w_ => (∃ us, s_ = slots 29 [(0, (.pointer (some ⟨x.b, 0, none⟩))), (2, (.slice a ((l.take k).length) c)), (10, (.slice x.oa ((l.map (·.1)).length) x.oc)), (11, (.int .i64 (((l.map (·.1)).length) : Int))), (12, (.int .i64 (k : Int)))] us) ∧ St B w [] w_ [kWr.row a c (l.take k)] ∧ (k ≤ l.length)) (fun | (k, a, c) => l.length - k) (0, none, 0) ⟨slots_intro _ (by kernel_rfl), hz0, Nat.zero_le _⟩ ?_
  rintro ⟨k, a, c⟩ _ w6 ⟨⟨us, rfl⟩, hs7, hk_⟩
  refine W.seq fun K8 hK8 => ?_
  refine W.region ?_
  refine ops_run 1 (by kernel_rfl) ?_
  refine ops_done (by kernel_rfl) ?_
  refine hK8 _ _ ?_
  clear hK8
  refine W.seq fun K9 hK9 => ?_
  refine W.cond (decide ((k : Int) < (((l.map (·.1)).length) : Int))) (by kernel_rfl) (fun h10 => ?_) (fun h10 => ?_)
  ·
    have h10p : (k : Int) < (((l.map (·.1)).length) : Int) := of_decide_eq_true h10
    refine W.skip ?_
    refine hK9 _ _ ?_
    clear hK9
    refine W.seq fun K11 hK11 => ?_
    refine W.block ?_
    refine W.seq fun K12 hK12 => ?_
    refine W.region ?_
    have hk13 : k < (l.map (·.1)).length := by omega
    refine ops_R (runs_index (a := x.oa) (n := (l.map (·.1)).length) (z := (k : Int)) (size := 1) k rfl hk13 (kInt.addr (hs7.oldCells ho) hk13) (by kernel_rfl)) ?_
    refine ops_R (runs_load (ad := ((adr x.oa (k * 1)).add 0)) (v := (.int .i64 ((l.map (·.1)).getD k 0))) (by kernel_rfl) (kInt.at (hs7.oldCells ho) hk13 0 0 rfl)) ?_
    refine ops_run 1 (by kernel_rfl) ?_
    refine ops_done (by kernel_rfl) ?_
    refine hK12 _ _ ?_
    clear hK12
    refine W.region ?_
    refine ops_run 5 (by kernel_rfl) ?_
    refine ops_R (runs_load (ad := ⟨x.b, 1, none⟩) (v := (.map (some x.mb))) (by kernel_rfl) (cell_of_blk (hs7.old hb) rfl)) ?_
    refine ops_run 1 (by kernel_rfl) ?_
    refine ops_R (v := (.int .u64 ((vlook l ((l.map (·.1)).getD k 0)).getD 0))) (runs_lookup (k := ((l.map (·.1)).getD k 0)) (ok := false) (hs7.oldMap hm) (by kernel_rfl)) ?_
    refine ops_run 1 (by kernel_rfl) ?_
    refine ops_new (fun b => .slice (some ⟨b, 0, none⟩) 1 1) (.cells [(.int .i64 ((l.map (·.1)).getD k 0)), (.int .u64 ((vlook l ((l.map (·.1)).getD k 0)).getD 0))].toArray 177 (0, 0)) hs7 (by kernel_rfl) (fun b16 w14 hs15 => ?_)
    have hs17 := St.f1 hs15
    refine ops_appendK kWr (bytes := 16) (a' := (some ⟨b16, 0, none⟩)) (c' := 1) (l := (l.take k)) (m := [(((l.map (·.1)).getD k 0), ((vlook l ((l.map (·.1)).getD k 0)).getD 0))]) hs17 (by kernel_rfl) (by simp) (cells_blk (hs17.heapAt 1 rfl)) (by (unfold maxLen; try simp) <;> omega) (by (try simp) <;> omega) (fun a18 c19 w20 hs21 => ?_)
    refine ops_run 1 (by kernel_rfl) ?_
    refine ops_done (by kernel_rfl) ?_
    refine normal_block ?_
    refine hK11 _ _ ?_
    clear hK11
    refine W.region ?_
    refine ops_val (v := .int .i64 (IntKind.i64.wrap ((k : Int) + 1))) (v' := .int .i64 ((k + 1 : Nat) : Int)) (by kernel_rfl) (congrArg (Value.int .i64) (wrap_i64 (by omega) (by omega))) ?_
    refine ops_run 1 (by kernel_rfl) ?_
    refine ops_done (by kernel_rfl) ?_
    have e_ := writes_step hok.keys (k := k) (by omega)
    have hs22 := St.tk1 hs21
    rw [e_] at hs22
    exact ⟨(k + 1, a18, c19), ⟨slots_intro _ (by rw [← e_]; kernel_rfl), hs22, by omega⟩, by first | omega | (dsimp only; omega)⟩
  ·
    have h10p : ¬ ((k : Int) < (((l.map (·.1)).length) : Int)) := of_decide_eq_false h10
    refine W.exit (exit_seq (exit_seq (exit_here ?_)))
    refine hK4 _ _ ?_
    clear hK4
    refine W.seq fun K23 hK23 => ?_
    refine W.region ?_
    refine ops_run 2 (by kernel_rfl) ?_
    refine ops_done (by kernel_rfl) ?_
    refine hK23 _ _ ?_
    clear hK23
    refine W.ret ?_
    have e_ : l.take k = l := List.take_of_length_le (by omega)
    have hs_ := hs7
    rw [e_] at hs_
    refine ret_of (.slice a ((l.take k).length) c) (by kernel_rfl) ⟨_, ⟨a, c, by rw [e_], rfl⟩, hs_⟩

end Go.Proofs.YthimamnblklkbaaDoor

/- Contracts of the functions of view, by a program. -/
namespace Go.Proofs.YthimamnblklkbaaDoor
open Go Go.RowKit
set_option linter.unusedSimpArgs false
set_option linter.unusedVariables false

set_option maxRecDepth 20000 in
theorem badf_spec {at_ x_ : Int} {bw n c : Nat} {a : Option Addr} (B : Nat) (w : World) (hb : w.heap[bw]? = some (.cells [.slice a n c].toArray 36 (0, 0))) : Spec Tryd.prog 142 #[(.agg #[(.int .i64 at_), (.int .u64 x_)]), (.pointer (some ⟨bw, 0, none⟩))] B w [] (fun v H' => v = .bool (bad n (at_, x_)) ∧ H' = []) := by
  refine spec_Q Tryd.func142 rfl fun hs => ?_
  refine W.seq fun K1 hK1 => ?_
  refine W.region ?_
  refine ops_new (fun b => .pointer (some ⟨b, 0, none⟩)) (.cells [(.int .i64 at_), (.int .u64 x_)].toArray 177 (0, 0)) hs (by kernel_rfl) (fun b4 w2 hs3 => ?_)
  refine ops_run 1 (by kernel_rfl) ?_
  refine ops_done (by kernel_rfl) ?_
  refine hK1 _ _ ?_
  clear hK1
  refine W.seq fun K5 hK5 => ?_
  refine W.region ?_
  refine ops_run 1 (by kernel_rfl) ?_
  refine ops_R (runs_load (ad := ⟨b4, 0, none⟩) (v := (.int .i64 at_)) (by kernel_rfl) (hs3.cellAt 0 rfl rfl)) ?_
  refine ops_run 2 (by kernel_rfl) ?_
  rcases Bool.eq_false_or_eq_true (decide (at_ < 0)) with h6 | h6
  ·
    have h6p : at_ < 0 := of_decide_eq_true h6
    refine ops_set 7 (v := .bool true) (eq_bool_of (by kernel_rfl) h6) ?_
    refine ops_set 6 (v := .bool true) (eq_bool_of (by kernel_rfl) h6) ?_
    refine ops_run 7 (by kernel_rfl) ?_
    refine ops_done (by kernel_rfl) ?_
    refine hK5 _ _ ?_
    clear hK5
    refine W.ret ?_
    have hs7 := St.tk0 hs3
    refine ret_of (.bool true) (by kernel_rfl) ⟨_, ⟨(congrArg Value.bool (decide_eq_true (by dsimp only; omega)).symm), rfl⟩, hs7⟩
  ·
    have h6p : ¬ (at_ < 0) := of_decide_eq_false h6
    refine ops_set 7 (v := .bool false) (eq_bool_of (by kernel_rfl) h6) ?_
    refine ops_set 6 (v := .bool false) (eq_bool_of (by kernel_rfl) h6) ?_
    refine ops_run 1 (by kernel_rfl) ?_
    refine ops_R (runs_load (ad := ⟨b4, 0, none⟩) (v := (.int .i64 at_)) (by kernel_rfl) (hs3.cellAt 0 rfl rfl)) ?_
    refine ops_R (runs_load (ad := ⟨bw, 0, none⟩) (v := (.slice a n c)) (by kernel_rfl) (cell_of_blk (hs3.old hb) rfl)) ?_
    refine ops_run 4 (by kernel_rfl) ?_
    refine ops_done (by kernel_rfl) ?_
    refine hK5 _ _ ?_
    clear hK5
    refine W.ret ?_
    have hs8 := St.tk0 hs3
    refine ret_of (.bool (decide (at_ ≥ (n : Int)))) (by kernel_rfl) ⟨_, ⟨(congrArg Value.bool (decide_eq_decide.2 (by dsimp only; omega))), rfl⟩, hs8⟩

set_option maxRecDepth 20000 in
theorem indexf_spec {la : Option Addr} {lc : Nat} {l : List (Int × Int)} {bw n c : Nat} {a : Option Addr} (B : Nat) (w : World) (hl : CellsAt la (kWr.cells l) w) (hb : w.heap[bw]? = some (.cells [.slice a n c].toArray 36 (0, 0))) (hsz : l.length ≤ 9223372036854775806) : Spec Tryd.prog 153 #[(.slice la l.length lc), (.func (.func 142) #[] #[(.pointer (some ⟨bw, 0, none⟩))])] B w [] (fun v H' => ∃ r : Int, (0 ≤ r ↔ l.any (bad n) = true) ∧ v = .int .i64 r ∧ H' = []) := by
  refine spec_Q Tryd.func153 rfl fun hs => ?_
  refine W.seq fun K1 hK1 => ?_
  refine W.region ?_
  refine ops_run 1 (by kernel_rfl) ?_
  refine ops_done (by kernel_rfl) ?_
  refine hK1 _ _ ?_
  clear hK1
  refine W.seq fun K2 hK2 => ?_
  refine W.seq fun K3 hK3 => ?_
  refine W.region ?_
  refine ops_run 3 (by kernel_rfl) ?_
  refine ops_done (by kernel_rfl) ?_
  refine hK3 _ _ ?_
  clear hK3
  refine W.block ?_
  refine W.loop (G := Nat) (fun | k, s_, w_ => (∃ us, s_ = slots 19 [(0, (.slice la l.length lc)), (1, (.func (.func 142) #[] #[(.pointer (some ⟨bw, 0, none⟩))])), (7, (.int .i64 (l.length : Int))), (8, (.int .i64 (k : Int)))] us) ∧ St B w [] w_ [] ∧ (k ≤ l.length) ∧ (∀ j, j < k → bad n (l.getD j (0, 0)) = false)) (fun k => l.length - k) 0 ⟨slots_intro _ (by kernel_rfl), hs, Nat.zero_le _, fun j hj => absurd hj (by omega)⟩ ?_
  rintro k _ w4 ⟨⟨us, rfl⟩, hs5, hk_, hk1⟩
  refine W.seq fun K6 hK6 => ?_
  refine W.region ?_
  refine ops_run 1 (by kernel_rfl) ?_
  refine ops_done (by kernel_rfl) ?_
  refine hK6 _ _ ?_
  clear hK6
  refine W.seq fun K7 hK7 => ?_
  refine W.cond (decide ((k : Int) < (l.length : Int))) (by kernel_rfl) (fun h8 => ?_) (fun h8 => ?_)
  ·
    have h8p : (k : Int) < (l.length : Int) := of_decide_eq_true h8
    refine W.skip ?_
    refine hK7 _ _ ?_
    clear hK7
    refine W.seq fun K9 hK9 => ?_
    refine W.block ?_
    refine W.seq fun K10 hK10 => ?_
    refine W.region ?_
    refine ops_run 2 (by kernel_rfl) ?_
    refine ops_done (by kernel_rfl) ?_
    refine hK10 _ _ ?_
    clear hK10
    refine W.seq fun K11 hK11 => ?_
    refine W.region ?_
    refine ops_run 3 (by kernel_rfl) ?_
    have hk12 : k < l.length := by omega
    refine ops_R (runs_index (a := la) (n := l.length) (z := (k : Int)) (size := 2) k rfl hk12 (kWr.addr (hs5.oldCells hl) hk12) (by kernel_rfl)) ?_
    refine ops_R (runs_loadAgg (cs := [(.int .i64 ((l.getD k (0, 0)).1)), (.int .u64 ((l.getD k (0, 0)).2))]) (by kernel_rfl) (kWr.all (hs5.oldCells hl) hk12 (0, 0) 0 rfl)) ?_
    refine ops_call0 hs5 (by kernel_rfl) (badf_spec (at_ := (l.getD k (0, 0)).1) (x_ := (l.getD k (0, 0)).2) (hb := (hs5.old hb)) B _) ?_
    rintro _ _ w13 ⟨rfl, rfl⟩ hs14
    have hs15 := St.ap0 hs14
    refine ops_done (by kernel_rfl) ?_
    refine hK11 _ _ ?_
    clear hK11
    refine W.cond (bad n ((l.getD k (0, 0)).1, (l.getD k (0, 0)).2)) (by kernel_rfl) (fun h16 => ?_) (fun h16 => ?_)
    ·
      have h16p : (bad n ((l.getD k (0, 0)).1, (l.getD k (0, 0)).2)) = true := h16
      refine W.seq fun K17 hK17 => ?_
      refine W.region ?_
      refine ops_run 2 (by kernel_rfl) ?_
      refine ops_done (by kernel_rfl) ?_
      refine hK17 _ _ ?_
      clear hK17
      refine W.ret (ret_block (ret_seq (ret_seq (ret_block (ret_seq ?_)))))
      refine ret_of (.int .i64 (k : Int)) (by kernel_rfl) ⟨_, ⟨_, ⟨fun _ => any_of_get (k := k) (by omega) (by assumption), fun _ => by omega⟩, rfl, rfl⟩, hs15⟩
    ·
      have h16p : (bad n ((l.getD k (0, 0)).1, (l.getD k (0, 0)).2)) = false := h16
      refine W.skip ?_
      refine normal_block ?_
      refine hK9 _ _ ?_
      clear hK9
      refine W.region ?_
      refine ops_val (v := .int .i64 (IntKind.i64.wrap ((k : Int) + 1))) (v' := .int .i64 ((k + 1 : Nat) : Int)) (by kernel_rfl) (congrArg (Value.int .i64) (wrap_i64 (by omega) (by omega))) ?_
      refine ops_run 1 (by kernel_rfl) ?_
      refine ops_done (by kernel_rfl) ?_
      have hk2 : ∀ j, j < k + 1 → bad n (l.getD j (0, 0)) = false := fun j hj => (Nat.lt_succ_iff_lt_or_eq.1 hj).elim (hk1 j) (fun e => by subst e; assumption)
      exact ⟨k + 1, ⟨slots_intro _ (by kernel_rfl), hs15, by omega, hk2⟩, by first | omega | (dsimp only; omega)⟩
  ·
    have h8p : ¬ ((k : Int) < (l.length : Int)) := of_decide_eq_false h8
    refine W.exit (exit_seq (exit_seq (exit_here ?_)))
    refine hK2 _ _ ?_
    clear hK2
    refine W.seq fun K18 hK18 => ?_
    refine W.region ?_
    refine ops_run 1 (by kernel_rfl) ?_
    refine ops_done (by kernel_rfl) ?_
    refine hK18 _ _ ?_
    clear hK18
    refine W.ret ?_
    refine ret_of (.int .i64 (-1)) (by kernel_rfl) ⟨_, ⟨_, ⟨fun h => absurd h (by decide), fun h => absurd (any_none (fun j hj => hk1 j (by omega))) (by rw [h]; decide)⟩, rfl, rfl⟩, hs5⟩

set_option maxRecDepth 20000 in
theorem contains_spec {la : Option Addr} {lc : Nat} {l : List (Int × Int)} {bw n c : Nat} {a : Option Addr} (B : Nat) (w : World) (hl : CellsAt la (kWr.cells l) w) (hb : w.heap[bw]? = some (.cells [.slice a n c].toArray 36 (0, 0))) (hsz : l.length ≤ 9223372036854775806) : Spec Tryd.prog 141 #[(.slice la l.length lc), (.func (.func 142) #[] #[(.pointer (some ⟨bw, 0, none⟩))])] B w [] (fun v H' => v = .bool (l.any (bad n)) ∧ H' = []) := by
  refine spec_Q Tryd.func141 rfl fun hs => ?_
  refine W.seq fun K1 hK1 => ?_
  refine W.region ?_
  refine ops_run 1 (by kernel_rfl) ?_
  refine ops_done (by kernel_rfl) ?_
  refine hK1 _ _ ?_
  clear hK1
  refine W.seq fun K2 hK2 => ?_
  refine W.region ?_
  refine ops_run 2 (by kernel_rfl) ?_
  refine ops_call0 hs (by kernel_rfl) (indexf_spec (lc := lc) (hsz := hsz) (hl := (hs.oldCells hl)) (hb := (hs.old hb)) B _) ?_
  rintro _ _ w5 ⟨r3, hr4, rfl, rfl⟩ hs6
  have hs7 := St.ap0 hs6
  refine ops_run 2 (by kernel_rfl) ?_
  refine ops_done (by kernel_rfl) ?_
  refine hK2 _ _ ?_
  clear hK2
  refine W.ret ?_
  refine ret_of (.bool (decide (r3 ≥ 0))) (by kernel_rfl) ⟨_, ⟨congrArg Value.bool (by rw [Bool.eq_iff_iff, decide_eq_true_eq]; exact hr4), rfl⟩, hs7⟩

end Go.Proofs.YthimamnblklkbaaDoor

/- Contracts of the functions of view, by a program. -/
namespace Go.Proofs.YthimamnblklkbaaDoor
open Go Go.RowKit
set_option linter.unusedSimpArgs false
set_option linter.unusedVariables false

set_option maxRecDepth 20000 in
theorem apply_spec {wa la : Option Addr} {wc lc : Nat} {words : List Int} {l : List (Int × Int)} {A : Asn} (B : Nat) (w : World) (hA : ∀ {B : Nat} {w : World} {lf : List Nat}, A.P B w lf → CellsAt la (kWr.cells l) w) (hsz : l.length ≤ 9223372036854775806) : Spec Tryd.prog 99 #[(.slice wa words.length wc), (.slice la l.length lc)] B w [kU64.row wa wc words, A] (fun v H' => v = .int .i64 (vapply words l).1 ∧ H' = [kU64.row wa wc (vapply words l).2, A]) := by
  refine spec_W Tryd.func99 rfl fun l0 hs => ?_
  refine W.seq fun K1 hK1 => ?_
  refine W.region ?_
  refine ops_new (fun b => .pointer (some ⟨b, 0, none⟩)) (.cells [(.slice wa words.length wc)].toArray 36 (0, 0)) hs (by kernel_rfl) (fun b4 w2 hs3 => ?_)
  refine ops_run 1 (by kernel_rfl) ?_
  refine ops_done (by kernel_rfl) ?_
  refine hK1 _ _ ?_
  clear hK1
  refine W.seq fun K5 hK5 => ?_
  refine W.seq fun K6 hK6 => ?_
  refine W.region ?_
  refine ops_run 2 (by kernel_rfl) ?_
  refine ops_call0 hs3 (by kernel_rfl) (contains_spec (lc := lc) (hsz := (by omega)) (hl := (hs3.entAt 2 rfl hA)) (hb := (hs3.heapAt 0 rfl)) B _) ?_
  rintro _ _ w7 ⟨rfl, rfl⟩ hs8
  have hs9 := St.ap0 hs8
  refine ops_done (by kernel_rfl) ?_
  refine hK6 _ _ ?_
  clear hK6
  refine W.cond (l.any (bad words.length)) (by kernel_rfl) (fun h10 => ?_) (fun h10 => ?_)
  ·
    have h10p : (l.any (bad words.length)) = true := h10
    refine W.seq fun K11 hK11 => ?_
    refine W.region ?_
    refine ops_run 1 (by kernel_rfl) ?_
    refine ops_done (by kernel_rfl) ?_
    refine hK11 _ _ ?_
    clear hK11
    refine W.ret (ret_seq ?_)
    have hs12 := St.f2 hs9
    have hs13 := St.f2 hs12
    have hs14 := St.tk2 hs13
    have e_ : vapply words l = (8, words) := if_pos (by assumption)
    refine ret_of (.int .i64 8) (by kernel_rfl) ⟨_, ⟨by rw [e_], rfl⟩, by rw [e_]; exact hs14⟩
  ·
    have h10p : (l.any (bad words.length)) = false := h10
    refine W.skip ?_
    refine hK5 _ _ ?_
    clear hK5
    refine W.seq fun K15 hK15 => ?_
    refine W.seq fun K16 hK16 => ?_
    refine W.region ?_
    refine ops_run 3 (by kernel_rfl) ?_
    refine ops_done (by kernel_rfl) ?_
    refine hK16 _ _ ?_
    clear hK16
    refine W.block ?_
    refine W.loop (G := Nat) (fun | k, s_, w_ => (∃ us, s_ = slots 23 [(2, (.pointer (some ⟨b4, 0, none⟩))), (10, (.slice la l.length lc)), (11, (.int .i64 (l.length : Int))), (12, (.int .i64 (k : Int)))] us) ∧ St B w l0 w_ [blk b4 (.cells [(.slice wa words.length wc)].toArray 36 (0, 0)), kU64.row wa wc (vflat words (l.take k)), A] ∧ (k ≤ l.length)) (fun k => l.length - k) 0 ⟨slots_intro _ (by kernel_rfl), hs9, Nat.zero_le _⟩ ?_
    rintro k _ w17 ⟨⟨us, rfl⟩, hs18, hk_⟩
    refine W.seq fun K19 hK19 => ?_
    refine W.region ?_
    refine ops_run 1 (by kernel_rfl) ?_
    refine ops_done (by kernel_rfl) ?_
    refine hK19 _ _ ?_
    clear hK19
    refine W.seq fun K20 hK20 => ?_
    refine W.cond (decide ((k : Int) < (l.length : Int))) (by kernel_rfl) (fun h21 => ?_) (fun h21 => ?_)
    ·
      have h21p : (k : Int) < (l.length : Int) := of_decide_eq_true h21
      have hin := not_any_get (l := l) (n := words.length) (k := k) (by assumption) (by omega)
      refine W.skip ?_
      refine hK20 _ _ ?_
      clear hK20
      refine W.seq fun K22 hK22 => ?_
      refine W.block ?_
      refine W.seq fun K23 hK23 => ?_
      refine W.region ?_
      have hk24 : k < l.length := by omega
      refine ops_R (runs_index (a := la) (n := l.length) (z := (k : Int)) (size := 2) k rfl hk24 (kWr.addr (hs18.entAt 2 rfl hA) hk24) (by kernel_rfl)) ?_
      refine ops_R (runs_loadAgg (cs := [(.int .i64 ((l.getD k (0, 0)).1)), (.int .u64 ((l.getD k (0, 0)).2))]) (by kernel_rfl) (kWr.all (hs18.entAt 2 rfl hA) hk24 (0, 0) 0 rfl)) ?_
      refine ops_new (fun b => .pointer (some ⟨b, 0, none⟩)) (.cells [(.int .i64 0), (.int .u64 0)].toArray 177 (0, 0)) hs18 (by kernel_rfl) (fun b27 w25 hs26 => ?_)
      refine ops_store (off := 0) (cs := [(.int .i64 0), (.int .u64 0)]) (vs := [(.int .i64 ((l.getD k (0, 0)).1)), (.int .u64 ((l.getD k (0, 0)).2))]) hs26 (by kernel_rfl) (by simp) rfl (fun w28 hs29 => ?_)
      have hs30 : St B w l0 w28 [blk b27 (.cells [(.int .i64 ((l.getD k (0, 0)).1)), (.int .u64 ((l.getD k (0, 0)).2))].toArray 177 (0, 0)), blk b4 (.cells [(.slice wa words.length wc)].toArray 36 (0, 0)), kU64.row wa wc (vflat words (l.take k)), A] := hs29
      refine ops_done (by kernel_rfl) ?_
      refine hK23 _ _ ?_
      clear hK23
      refine W.region ?_
      refine ops_R (runs_load (ad := ⟨b4, 0, none⟩) (v := (.slice wa words.length wc)) (by kernel_rfl) (hs30.cellAt 1 rfl rfl)) ?_
      refine ops_run 1 (by kernel_rfl) ?_
      refine ops_R (runs_load (ad := ⟨b27, 0, none⟩) (v := (.int .i64 ((l.getD k (0, 0)).1))) (by kernel_rfl) (hs30.cellAt 0 rfl rfl)) ?_
      refine ops_run 1 (by kernel_rfl) ?_
      refine ops_R (runs_load (ad := ⟨b27, 1, none⟩) (v := (.int .u64 ((l.getD k (0, 0)).2))) (by kernel_rfl) (hs30.cellAt 0 rfl rfl)) ?_
      have hk31 : ((l.getD k (0, 0)).1).toNat < words.length := by omega
      have hk32 : ((l.getD k (0, 0)).1).toNat < (vflat words (l.take k)).length := (by rw [vflat_length]; exact hk31)
      refine ops_R (runs_index (a := wa) (n := words.length) (z := (l.getD k (0, 0)).1) (size := 1) (((l.getD k (0, 0)).1).toNat) (by omega) hk31 (kU64.addr (St.kcells kU64 hs30 2 rfl) hk32) (by kernel_rfl)) ?_
      have hs35 := St.f2 hs30
      refine ops_storeK kU64 (j := 0) (vs := [(.int .u64 ((l.getD k (0, 0)).2))]) 0 ((l.getD k (0, 0)).2) hs35 hk32 (Nat.le_of_ble_eq_true rfl) (by simp) rfl rfl (by kernel_rfl) (fun w33 hs34 => ?_)
      refine ops_done (by kernel_rfl) ?_
      refine normal_block ?_
      refine hK22 _ _ ?_
      clear hK22
      refine W.region ?_
      refine ops_val (v := .int .i64 (IntKind.i64.wrap ((k : Int) + 1))) (v' := .int .i64 ((k + 1 : Nat) : Int)) (by kernel_rfl) (congrArg (Value.int .i64) (wrap_i64 (by omega) (by omega))) ?_
      refine ops_run 1 (by kernel_rfl) ?_
      refine ops_done (by kernel_rfl) ?_
      have e_ := vflat_step words (l := l) (k := k) (by omega)
      have hs37 := St.f3 hs34
      have hs38 := St.f1 hs37
      have hs39 := St.f3 hs38
      have hs40 := St.tk3 hs39
      rw [e_] at hs40
      exact ⟨k + 1, ⟨slots_intro _ (by kernel_rfl), hs40, by omega⟩, by first | omega | (dsimp only; omega)⟩
    ·
      have h21p : ¬ ((k : Int) < (l.length : Int)) := of_decide_eq_false h21
      refine W.exit (exit_seq (exit_seq (exit_here ?_)))
      refine hK15 _ _ ?_
      clear hK15
      refine W.seq fun K41 hK41 => ?_
      refine W.region ?_
      refine ops_run 1 (by kernel_rfl) ?_
      refine ops_done (by kernel_rfl) ?_
      refine hK41 _ _ ?_
      clear hK41
      refine W.ret ?_
      have hs42 := St.f2 hs18
      have hs43 := St.f2 hs42
      have hs44 := St.tk2 hs43
      have hno : ¬ (l.any (bad words.length)) = true := by simp only [‹l.any (bad words.length) = false›]; decide
      have e_ : vapply words l = (0, vflat words l) := if_neg hno
      have e2_ : l.take k = l := List.take_of_length_le (by omega)
      have hs_ := hs44
      rw [e2_] at hs_
      refine ret_of (.int .i64 0) (by kernel_rfl) ⟨_, ⟨by rw [e_], rfl⟩, by rw [e_]; exact hs_⟩

set_option maxRecDepth 20000 in
theorem flat_spec {p : Value} {img : List Int} {l : List (Int × Int)} (B : Nat) (w : World) (hv : ViewAt p img l w) : Spec Tryd.prog 29 #[p] B w [] (fun v H' => ∃ a' c', v = .slice a' (vflat img l).length c' ∧ H' = [kU64.row a' c' (vflat img l)]) := by
  refine spec_Q Tryd.func29 rfl fun hs => ?_
  have hv0 := hv
  obtain ⟨x, rfl, hok, hb, hi, hm, ho, hcap⟩ := hv
  have hroom := hok.many
  refine W.seq fun K1 hK1 => ?_
  refine W.region ?_
  refine ops_run 1 (by kernel_rfl) ?_
  refine ops_done (by kernel_rfl) ?_
  refine hK1 _ _ ?_
  clear hK1
  refine W.seq fun K2 hK2 => ?_
  refine W.seq fun K3 hK3 => ?_
  refine W.region ?_
  refine ops_run 2 (by kernel_rfl) ?_
  refine ops_done (by kernel_rfl) ?_
  refine hK3 _ _ ?_
  clear hK3
  refine W.cond_false false (by kernel_rfl) rfl ?_
  refine W.skip ?_
  refine hK2 _ _ ?_
  clear hK2
  refine W.seq fun K4 hK4 => ?_
  refine W.region ?_
  refine ops_run 3 (by kernel_rfl) ?_
  refine ops_R (runs_load (ad := ⟨x.b, 0, none⟩) (v := (.slice x.ia img.length x.ic)) (by kernel_rfl) (cell_of_blk (hs.old hb) rfl)) ?_
  refine ops_call0 hs (by kernel_rfl) (clone_spec (hc := (hs.oldCells hi)) (hn := hcap) (hsz := hok.size) B _) ?_
  rintro _ _ w7 ⟨a5, c6, rfl, rfl⟩ hs8
  have hs9 := St.ap1 hs8
  refine ops_run 1 (by kernel_rfl) ?_
  refine ops_done (by kernel_rfl) ?_
  refine hK4 _ _ ?_
  clear hK4
  refine W.seq fun K10 hK10 => ?_
  refine W.region ?_
  refine ops_run 2 (by kernel_rfl) ?_
  refine ops_call0 hs9 (by kernel_rfl) (writes_spec (hv := (viewAt_old hs9 hv0)) B _) ?_
  rintro _ _ w13 ⟨a11, c12, rfl, rfl⟩ hs14
  have hs15 := St.ap1 hs14
  have hs16 := St.f1 hs15
  refine ops_call2 hs16 (by kernel_rfl) (apply_spec (wa := a5) (wc := c6) (la := a11) (lc := c12) (words := img) (l := l) (A := kWr.row a11 c12 l) (hA := (fun h => rowA_cells h)) (hsz := (by omega)) B _) ?_
  rintro _ _ w17 ⟨rfl, rfl⟩ hs18
  have hs19 := St.ap2 hs18
  refine ops_done (by kernel_rfl) ?_
  refine hK10 _ _ ?_
  clear hK10
  refine W.seq fun K20 hK20 => ?_
  refine W.region ?_
  refine ops_run 2 (by kernel_rfl) ?_
  refine ops_done (by kernel_rfl) ?_
  refine hK20 _ _ ?_
  clear hK20
  refine W.ret ?_
  have hs21 := St.tk1 hs19
  have e_ : vapply img l = (0, vflat img l) := if_neg (by rw [inside_any hok.inside]; decide)
  have hs_ := hs21
  rw [e_] at hs_
  refine ret_of (.slice a5 img.length c6) (by kernel_rfl) ⟨_, ⟨a5, c6, by rw [vflat_length], rfl⟩, hs_⟩

set_option maxRecDepth 20000 in
theorem drop_spec {p : Value} {img : List Int} {l : List (Int × Int)} (B : Nat) (w : World) : Spec Tryd.prog 41 #[p] B w [viewA p img l] (fun v H' => v = .tuple #[] ∧ H' = [viewA p img []]) := by
  refine spec_W Tryd.func41 rfl fun l0 hs => ?_
  obtain ⟨x, ⟨rfl, hok⟩, hs0⟩ := St.open hs
  have hs1 : St B w l0 w [blk x.b (.cells [(.slice x.ia img.length x.ic), (.map (some x.mb)), (.slice x.oa ((l.map (·.1)).length) x.oc)].toArray 163 (0, 0)), kU64.row x.ia x.ic img, mapA x.mb l, kInt.row x.oa x.oc (l.map (·.1))] := hs0
  refine W.seq fun K1 hK1 => ?_
  refine W.region ?_
  refine ops_run 2 (by kernel_rfl) ?_
  refine ops_done (by kernel_rfl) ?_
  refine hK1 _ _ ?_
  clear hK1
  refine W.cond_true true (by kernel_rfl) rfl ?_
  refine W.seq fun K2 hK2 => ?_
  refine W.region ?_
  refine ops_run 3 (by kernel_rfl) ?_
  refine ops_R (runs_load (ad := ⟨x.b, 1, none⟩) (v := (.map (some x.mb))) (by kernel_rfl) (hs1.cellAt 0 rfl rfl)) ?_
  have hs3 := St.f2 hs1
  refine ops_clear hs3 (by kernel_rfl) (fun w4 hs5 => ?_)
  refine ops_done (by kernel_rfl) ?_
  refine hK2 _ _ ?_
  clear hK2
  refine W.region ?_
  refine ops_run 3 (by kernel_rfl) ?_
  have hs8 := St.f1 hs5
  refine ops_store (off := 2) (cs := [(.slice x.ia img.length x.ic), (.map (some x.mb)), (.slice x.oa ((l.map (·.1)).length) x.oc)]) (vs := [(.slice none 0 0)]) hs8 (by kernel_rfl) (by simp) rfl (fun w6 hs7 => ?_)
  have hs9 : St B w l0 w6 [blk x.b (.cells [(.slice x.ia img.length x.ic), (.map (some x.mb)), (.slice none 0 0)].toArray 163 (0, 0)), mapA x.mb ([]), kU64.row x.ia x.ic img, kInt.row x.oa x.oc (l.map (·.1))] := hs7
  refine ops_done (by kernel_rfl) ?_
  have hs10 := St.f1 hs9
  have hs11 := St.f2 hs10
  have hs12 := St.f2 hs11
  have hs13 := St.tk3 hs12
  have hk := St.knil kInt hs13
  have hk2 := hk.perm (H' := [blk x.b (.cells [(.slice x.ia img.length x.ic), (.map (some x.mb)), (.slice none 0 0)].toArray 163 (0, 0)), kU64.row x.ia x.ic img, mapA x.mb ([]), kInt.row none 0 []]) (perm_last _ _)
  refine ret_ofN (.tuple #[]) (by kernel_rfl) ⟨_, ⟨rfl, rfl⟩, view_close (l := []) (ia := x.ia) (ic := x.ic) (mb := x.mb) (oa := none) (oc := 0) (VOk.nil hok.size) hk2⟩

end Go.Proofs.YthimamnblklkbaaDoor

/- Contracts of the functions of view and its reference, by a program. -/
namespace Go.Proofs.YthimamnblklkbaaDoor
open Go Go.RowKit
set_option linter.unusedSimpArgs false
set_option linter.unusedVariables false

set_option maxRecDepth 20000 in
theorem same03_spec {xa ya : Option Addr} {n m xc yc : Nat} {xs ys : List Int} (B : Nat) (w : World) (hn : n = xs.length) (hm : m = ys.length) (hx : CellsAt xa (kU64.cells xs) w) (hy : CellsAt ya (kU64.cells ys) w) (hsz : n ≤ 9223372036854775806) : Spec Tryd.prog 78 #[(.slice xa n xc), (.slice ya m yc)] B w [] (fun v H' => v = .bool (decide (xs = ys)) ∧ H' = []) := by
  refine spec_Q Tryd.func78 rfl fun hs => ?_
  subst hn hm
  refine W.seq fun K1 hK1 => ?_
  refine W.region ?_
  refine ops_run 1 (by kernel_rfl) ?_
  refine ops_done (by kernel_rfl) ?_
  refine hK1 _ _ ?_
  clear hK1
  refine W.seq fun K2 hK2 => ?_
  refine W.seq fun K3 hK3 => ?_
  refine W.region ?_
  refine ops_run 5 (by kernel_rfl) ?_
  refine ops_done (by kernel_rfl) ?_
  refine hK3 _ _ ?_
  clear hK3
  refine W.cond (!decide ((xs.length : Int) = (ys.length : Int))) (by kernel_rfl) (fun h4 => ?_) (fun h4 => ?_)
  ·
    have h4p : ¬ ((xs.length : Int) = (ys.length : Int)) := of_decide_eq_false (bnot_true h4)
    refine W.seq fun K5 hK5 => ?_
    refine W.region ?_
    refine ops_run 1 (by kernel_rfl) ?_
    refine ops_done (by kernel_rfl) ?_
    refine hK5 _ _ ?_
    clear hK5
    refine W.ret (ret_seq ?_)
    refine ret_of (.bool false) (by kernel_rfl) ⟨_, ⟨congrArg Value.bool (decide_eq_false (fun e_ => by subst e_; first | omega | (exact (by assumption) rfl) | (simp_all))).symm, rfl⟩, hs⟩
  ·
    have h4p : (xs.length : Int) = (ys.length : Int) := of_decide_eq_true (bnot_false h4)
    refine W.skip ?_
    refine hK2 _ _ ?_
    clear hK2
    refine W.seq fun K6 hK6 => ?_
    refine W.seq fun K7 hK7 => ?_
    refine W.region ?_
    refine ops_run 1 (by kernel_rfl) ?_
    refine ops_done (by kernel_rfl) ?_
    refine hK7 _ _ ?_
    clear hK7
    refine W.block ?_
    refine W.loop (G := Nat) (fun | k, s_, w_ => (∃ us, s_ = slots 26 [(0, (.slice xa xs.length xc)), (1, (.slice ya ys.length yc)), (5, (.int .i64 (k : Int)))] us) ∧ St B w [] w_ [] ∧ (k ≤ xs.length) ∧ (∀ j, j < k → xs.getD j 0 = ys.getD j 0)) (fun k => xs.length - k) 0 ⟨slots_intro _ (by kernel_rfl), hs, Nat.zero_le _, fun j hj => absurd hj (by omega)⟩ ?_
    rintro k _ w8 ⟨⟨us, rfl⟩, hs9, hk_, hk1⟩
    refine W.seq fun K10 hK10 => ?_
    refine W.seq fun K11 hK11 => ?_
    refine W.region ?_
    refine ops_run 4 (by kernel_rfl) ?_
    refine ops_done (by kernel_rfl) ?_
    refine hK11 _ _ ?_
    clear hK11
    refine W.cond (decide ((k : Int) < (xs.length : Int))) (by kernel_rfl) (fun h12 => ?_) (fun h12 => ?_)
    ·
      have h12p : (k : Int) < (xs.length : Int) := of_decide_eq_true h12
      refine W.skip ?_
      refine hK10 _ _ ?_
      clear hK10
      refine W.seq fun K13 hK13 => ?_
      refine W.block ?_
      refine W.seq fun K14 hK14 => ?_
      have hs15 := hs9.drew
      refine W.regionD [(0, 0), (0, 0), (3, 3), (4, 4), (0, 0), (0, 0), (48, 48), (64, 64), (136, 136)] (fun w_ => St B w [] w_ []) (by kernel_rfl) hs15 ?_
      refine any_val (v := (.slice xa xs.length xc)) (v' := (.slice xa xs.length xc)) 0 (by kernel_rfl) (fun _ => by kernel_rfl) rfl hs15 ?_
      refine any_val (v := (.int .i64 (k : Int))) (v' := (.int .i64 (k : Int))) 1 (by kernel_rfl) (fun _ => by kernel_rfl) rfl hs15 ?_
      have hk16 : k < xs.length := by omega
      refine any_R 2 (by kernel_rfl) (fun _ hS_ => runs_index (a := xa) (n := xs.length) (z := (k : Int)) (size := 1) k rfl hk16 (kU64.addr (hs15.oldCells hx) hk16) (by kernel_rfl)) hs15 ?_
      refine any_R 3 (by kernel_rfl) (fun _ hS_ => runs_load (ad := ((adr xa (k * 1)).add 0)) (v := (.int .u64 (xs.getD k 0))) (by kernel_rfl) (kU64.at (hS_.oldCells hx) hk16 0 0 rfl)) hs15 ?_
      refine any_val (v := (.slice ya ys.length yc)) (v' := (.slice ya ys.length yc)) 4 (by kernel_rfl) (fun _ => by kernel_rfl) rfl hs15 ?_
      refine any_val (v := (.int .i64 (k : Int))) (v' := (.int .i64 (k : Int))) 5 (by kernel_rfl) (fun _ => by kernel_rfl) rfl hs15 ?_
      have hk17 : k < ys.length := by omega
      refine any_R 6 (by kernel_rfl) (fun _ hS_ => runs_index (a := ya) (n := ys.length) (z := (k : Int)) (size := 1) k rfl hk17 (kU64.addr (hs15.oldCells hy) hk17) (by kernel_rfl)) hs15 ?_
      refine any_R 7 (by kernel_rfl) (fun _ hS_ => runs_load (ad := ((adr ya (k * 1)).add 0)) (v := (.int .u64 (ys.getD k 0))) (by kernel_rfl) (kU64.at (hS_.oldCells hy) hk17 0 0 rfl)) hs15 ?_
      refine any_val (v := (.bool (!decide ((xs.getD k 0) = (ys.getD k 0))))) (v' := (.bool (!decide ((xs.getD k 0) = (ys.getD k 0))))) 8 (by kernel_rfl) (fun _ => by kernel_rfl) rfl hs15 ?_
      refine any_done (by kernel_rfl) ?_
      refine hK14 _ _ ?_
      clear hK14
      refine W.cond (!decide ((xs.getD k 0) = (ys.getD k 0))) (by kernel_rfl) (fun h18 => ?_) (fun h18 => ?_)
      ·
        have h18p : ¬ ((xs.getD k 0) = (ys.getD k 0)) := of_decide_eq_false (bnot_true h18)
        refine W.seq fun K19 hK19 => ?_
        refine W.region ?_
        refine ops_run 1 (by kernel_rfl) ?_
        refine ops_done (by kernel_rfl) ?_
        refine hK19 _ _ ?_
        clear hK19
        refine W.ret (ret_block (ret_seq (ret_seq (ret_block (ret_seq ?_)))))
        refine ret_of (.bool false) (by kernel_rfl) ⟨_, ⟨congrArg Value.bool (decide_eq_false (fun e_ => by subst e_; first | omega | (exact (by assumption) rfl) | (simp_all))).symm, rfl⟩, hs15⟩
      ·
        have h18p : (xs.getD k 0) = (ys.getD k 0) := of_decide_eq_true (bnot_false h18)
        refine W.skip ?_
        refine normal_block ?_
        refine hK13 _ _ ?_
        clear hK13
        refine W.region ?_
        refine ops_run 1 (by kernel_rfl) ?_
        refine ops_val (v := .int .i64 (IntKind.i64.wrap ((k : Int) + 1))) (v' := .int .i64 ((k + 1 : Nat) : Int)) (by kernel_rfl) (congrArg (Value.int .i64) (wrap_i64 (by omega) (by omega))) ?_
        refine ops_run 1 (by kernel_rfl) ?_
        refine ops_done (by kernel_rfl) ?_
        have hk2 : ∀ j, j < k + 1 → xs.getD j 0 = ys.getD j 0 := fun j hj => (Nat.lt_succ_iff_lt_or_eq.1 hj).elim (hk1 j) (fun e => by subst e; first | assumption | (refine Prod.ext ?_ ?_ <;> simp_all))
        exact ⟨k + 1, ⟨slots_intro _ (by kernel_rfl), hs15, by omega, hk2⟩, by first | omega | (dsimp only; omega)⟩
    ·
      have h12p : ¬ ((k : Int) < (xs.length : Int)) := of_decide_eq_false h12
      refine W.exit (exit_seq (exit_seq (exit_here ?_)))
      refine hK6 _ _ ?_
      clear hK6
      refine W.seq fun K20 hK20 => ?_
      refine W.region ?_
      refine ops_run 1 (by kernel_rfl) ?_
      refine ops_done (by kernel_rfl) ?_
      refine hK20 _ _ ?_
      clear hK20
      refine W.ret ?_
      refine ret_of (.bool true) (by kernel_rfl) ⟨_, ⟨congrArg Value.bool (decide_eq_true (eq_of_getD 0 (by omega) (fun j hj => hk1 j (by omega)))).symm, rfl⟩, hs9⟩

set_option maxRecDepth 20000 in
theorem same05_spec {xa ya : Option Addr} {n m xc yc : Nat} {xs ys : List (Int × Int)} (B : Nat) (w : World) (hn : n = xs.length) (hm : m = ys.length) (hx : CellsAt xa (kWr.cells xs) w) (hy : CellsAt ya (kWr.cells ys) w) (hsz : n ≤ 9223372036854775806) : Spec Tryd.prog 50 #[(.slice xa n xc), (.slice ya m yc)] B w [] (fun v H' => v = .bool (decide (xs = ys)) ∧ H' = []) := by
  refine spec_Q Tryd.func50 rfl fun hs => ?_
  subst hn hm
  refine W.seq fun K1 hK1 => ?_
  refine W.region ?_
  refine ops_run 1 (by kernel_rfl) ?_
  refine ops_done (by kernel_rfl) ?_
  refine hK1 _ _ ?_
  clear hK1
  refine W.seq fun K2 hK2 => ?_
  refine W.seq fun K3 hK3 => ?_
  refine W.region ?_
  refine ops_run 5 (by kernel_rfl) ?_
  refine ops_done (by kernel_rfl) ?_
  refine hK3 _ _ ?_
  clear hK3
  refine W.cond (!decide ((xs.length : Int) = (ys.length : Int))) (by kernel_rfl) (fun h4 => ?_) (fun h4 => ?_)
  ·
    have h4p : ¬ ((xs.length : Int) = (ys.length : Int)) := of_decide_eq_false (bnot_true h4)
    refine W.seq fun K5 hK5 => ?_
    refine W.region ?_
    refine ops_run 1 (by kernel_rfl) ?_
    refine ops_done (by kernel_rfl) ?_
    refine hK5 _ _ ?_
    clear hK5
    refine W.ret (ret_seq ?_)
    refine ret_of (.bool false) (by kernel_rfl) ⟨_, ⟨congrArg Value.bool (decide_eq_false (fun e_ => by subst e_; first | omega | (exact (by assumption) rfl) | (simp_all))).symm, rfl⟩, hs⟩
  ·
    have h4p : (xs.length : Int) = (ys.length : Int) := of_decide_eq_true (bnot_false h4)
    refine W.skip ?_
    refine hK2 _ _ ?_
    clear hK2
    refine W.seq fun K6 hK6 => ?_
    refine W.seq fun K7 hK7 => ?_
    refine W.region ?_
    refine ops_run 1 (by kernel_rfl) ?_
    refine ops_done (by kernel_rfl) ?_
    refine hK7 _ _ ?_
    clear hK7
    refine W.block ?_
    refine W.loop (G := Nat) (fun | k, s_, w_ => (∃ us, s_ = slots 26 [(0, (.slice xa xs.length xc)), (1, (.slice ya ys.length yc)), (5, (.int .i64 (k : Int)))] us) ∧ St B w [] w_ [] ∧ (k ≤ xs.length) ∧ (∀ j, j < k → xs.getD j (0, 0) = ys.getD j (0, 0))) (fun k => xs.length - k) 0 ⟨slots_intro _ (by kernel_rfl), hs, Nat.zero_le _, fun j hj => absurd hj (by omega)⟩ ?_
    rintro k _ w8 ⟨⟨us, rfl⟩, hs9, hk_, hk1⟩
    refine W.seq fun K10 hK10 => ?_
    refine W.seq fun K11 hK11 => ?_
    refine W.region ?_
    refine ops_run 4 (by kernel_rfl) ?_
    refine ops_done (by kernel_rfl) ?_
    refine hK11 _ _ ?_
    clear hK11
    refine W.cond (decide ((k : Int) < (xs.length : Int))) (by kernel_rfl) (fun h12 => ?_) (fun h12 => ?_)
    ·
      have h12p : (k : Int) < (xs.length : Int) := of_decide_eq_true h12
      refine W.skip ?_
      refine hK10 _ _ ?_
      clear hK10
      refine W.seq fun K13 hK13 => ?_
      refine W.block ?_
      refine W.seq fun K14 hK14 => ?_
      have hs15 := hs9.drew
      refine W.regionD [(0, 0), (0, 0), (3, 3), (4, 4), (0, 0), (0, 0), (48, 48), (64, 64), (136, 136)] (fun w_ => St B w [] w_ []) (by kernel_rfl) hs15 ?_
      refine any_val (v := (.slice xa xs.length xc)) (v' := (.slice xa xs.length xc)) 0 (by kernel_rfl) (fun _ => by kernel_rfl) rfl hs15 ?_
      refine any_val (v := (.int .i64 (k : Int))) (v' := (.int .i64 (k : Int))) 1 (by kernel_rfl) (fun _ => by kernel_rfl) rfl hs15 ?_
      have hk16 : k < xs.length := by omega
      refine any_R 2 (by kernel_rfl) (fun _ hS_ => runs_index (a := xa) (n := xs.length) (z := (k : Int)) (size := 2) k rfl hk16 (kWr.addr (hs15.oldCells hx) hk16) (by kernel_rfl)) hs15 ?_
      refine any_R 3 (by kernel_rfl) (fun _ hS_ => runs_loadAgg (cs := [(.int .i64 ((xs.getD k (0, 0)).1)), (.int .u64 ((xs.getD k (0, 0)).2))]) (by kernel_rfl) (kWr.all (hS_.oldCells hx) hk16 (0, 0) 0 rfl)) hs15 ?_
      refine any_val (v := (.slice ya ys.length yc)) (v' := (.slice ya ys.length yc)) 4 (by kernel_rfl) (fun _ => by kernel_rfl) rfl hs15 ?_
      refine any_val (v := (.int .i64 (k : Int))) (v' := (.int .i64 (k : Int))) 5 (by kernel_rfl) (fun _ => by kernel_rfl) rfl hs15 ?_
      have hk17 : k < ys.length := by omega
      refine any_R 6 (by kernel_rfl) (fun _ hS_ => runs_index (a := ya) (n := ys.length) (z := (k : Int)) (size := 2) k rfl hk17 (kWr.addr (hs15.oldCells hy) hk17) (by kernel_rfl)) hs15 ?_
      refine any_R 7 (by kernel_rfl) (fun _ hS_ => runs_loadAgg (cs := [(.int .i64 ((ys.getD k (0, 0)).1)), (.int .u64 ((ys.getD k (0, 0)).2))]) (by kernel_rfl) (kWr.all (hS_.oldCells hy) hk17 (0, 0) 0 rfl)) hs15 ?_
      refine any_R (v := (.bool (!((decide ((xs.getD k (0, 0)).1 = (ys.getD k (0, 0)).1)) && ((decide ((xs.getD k (0, 0)).2 = (ys.getD k (0, 0)).2)) && true))))) 8 (by kernel_rfl) (fun _ hS_ => runs_eq (b := !((decide ((xs.getD k (0, 0)).1 = (ys.getD k (0, 0)).1)) && ((decide ((xs.getD k (0, 0)).2 = (ys.getD k (0, 0)).2)) && true))) (by kernel_rfl)) hs15 ?_
      refine any_done (by kernel_rfl) ?_
      refine hK14 _ _ ?_
      clear hK14
      refine W.cond (!((decide ((xs.getD k (0, 0)).1 = (ys.getD k (0, 0)).1)) && ((decide ((xs.getD k (0, 0)).2 = (ys.getD k (0, 0)).2)) && true))) (by kernel_rfl) (fun h18 => ?_) (fun h18 => ?_)
      ·
        have h18p : ¬ ((xs.getD k (0, 0)).1 = (ys.getD k (0, 0)).1 ∧ (xs.getD k (0, 0)).2 = (ys.getD k (0, 0)).2) := by simpa using (bnot_true h18)
        refine W.seq fun K19 hK19 => ?_
        refine W.region ?_
        refine ops_run 1 (by kernel_rfl) ?_
        refine ops_done (by kernel_rfl) ?_
        refine hK19 _ _ ?_
        clear hK19
        refine W.ret (ret_block (ret_seq (ret_seq (ret_block (ret_seq ?_)))))
        refine ret_of (.bool false) (by kernel_rfl) ⟨_, ⟨congrArg Value.bool (decide_eq_false (fun e_ => by subst e_; first | omega | (exact (by assumption) rfl) | (simp_all))).symm, rfl⟩, hs15⟩
      ·
        have h18p : (xs.getD k (0, 0)).1 = (ys.getD k (0, 0)).1 ∧ (xs.getD k (0, 0)).2 = (ys.getD k (0, 0)).2 := by simpa using (bnot_false h18)
        refine W.skip ?_
        refine normal_block ?_
        refine hK13 _ _ ?_
        clear hK13
        refine W.region ?_
        refine ops_run 1 (by kernel_rfl) ?_
        refine ops_val (v := .int .i64 (IntKind.i64.wrap ((k : Int) + 1))) (v' := .int .i64 ((k + 1 : Nat) : Int)) (by kernel_rfl) (congrArg (Value.int .i64) (wrap_i64 (by omega) (by omega))) ?_
        refine ops_run 1 (by kernel_rfl) ?_
        refine ops_done (by kernel_rfl) ?_
        have hk2 : ∀ j, j < k + 1 → xs.getD j (0, 0) = ys.getD j (0, 0) := fun j hj => (Nat.lt_succ_iff_lt_or_eq.1 hj).elim (hk1 j) (fun e => by subst e; first | assumption | (refine Prod.ext ?_ ?_ <;> simp_all))
        exact ⟨k + 1, ⟨slots_intro _ (by kernel_rfl), hs15, by omega, hk2⟩, by first | omega | (dsimp only; omega)⟩
    ·
      have h12p : ¬ ((k : Int) < (xs.length : Int)) := of_decide_eq_false h12
      refine W.exit (exit_seq (exit_seq (exit_here ?_)))
      refine hK6 _ _ ?_
      clear hK6
      refine W.seq fun K20 hK20 => ?_
      refine W.region ?_
      refine ops_run 1 (by kernel_rfl) ?_
      refine ops_done (by kernel_rfl) ?_
      refine hK20 _ _ ?_
      clear hK20
      refine W.ret ?_
      refine ret_of (.bool true) (by kernel_rfl) ⟨_, ⟨congrArg Value.bool (decide_eq_true (eq_of_getD (0, 0) (by omega) (fun j hj => hk1 j (by omega)))).symm, rfl⟩, hs9⟩

set_option maxRecDepth 20000 in
theorem find_spec {p : Value} {img : List Int} {l : List (Int × Int)} {at_ : Int} (B : Nat) (w : World) (hv : RefAt p img l w) : Spec Tryd.prog 148 #[p, (.int .i64 at_)] B w [] (fun v H' => ∃ r : Int, FindR l at_ r ∧ v = .int .i64 r ∧ H' = []) := by
  refine spec_Q Tryd.func148 rfl fun hs => ?_
  have hv0 := hv
  obtain ⟨x, rfl, hok, hb, hi, ho, hcap⟩ := hv
  have hroom := hok.many
  have hroom2 := hok.size
  refine W.seq fun K1 hK1 => ?_
  refine W.region ?_
  refine ops_run 1 (by kernel_rfl) ?_
  refine ops_done (by kernel_rfl) ?_
  refine hK1 _ _ ?_
  clear hK1
  refine W.seq fun K2 hK2 => ?_
  refine W.seq fun K3 hK3 => ?_
  refine W.region ?_
  refine ops_run 1 (by kernel_rfl) ?_
  refine ops_done (by kernel_rfl) ?_
  refine hK3 _ _ ?_
  clear hK3
  refine W.block ?_
  refine W.loop (G := Nat) (fun | k, s_, w_ => (∃ us, s_ = slots 26 [(0, (.pointer (some ⟨x.b, 0, none⟩))), (1, (.int .i64 at_)), (5, (.int .i64 (k : Int)))] us) ∧ St B w [] w_ [] ∧ (k ≤ l.length) ∧ (∀ j, j < k → ¬ (l.getD j (0, 0)).1 = at_)) (fun k => l.length - k) 0 ⟨slots_intro _ (by kernel_rfl), hs, Nat.zero_le _, fun j hj => absurd hj (by omega)⟩ ?_
  rintro k _ w4 ⟨⟨us, rfl⟩, hs5, hk_, hk1⟩
  refine W.seq fun K6 hK6 => ?_
  refine W.seq fun K7 hK7 => ?_
  refine W.region ?_
  refine ops_run 4 (by kernel_rfl) ?_
  refine ops_R (runs_load (ad := ⟨x.b, 1, none⟩) (v := (.slice x.la l.length x.lc)) (by kernel_rfl) (cell_of_blk (hs5.old hb) rfl)) ?_
  refine ops_run 2 (by kernel_rfl) ?_
  refine ops_done (by kernel_rfl) ?_
  refine hK7 _ _ ?_
  clear hK7
  refine W.cond (decide ((k : Int) < (l.length : Int))) (by kernel_rfl) (fun h8 => ?_) (fun h8 => ?_)
  ·
    have h8p : (k : Int) < (l.length : Int) := of_decide_eq_true h8
    refine W.skip ?_
    refine hK6 _ _ ?_
    clear hK6
    refine W.seq fun K9 hK9 => ?_
    refine W.block ?_
    refine W.seq fun K10 hK10 => ?_
    refine W.region ?_
    refine ops_run 3 (by kernel_rfl) ?_
    refine ops_R (runs_load (ad := ⟨x.b, 1, none⟩) (v := (.slice x.la l.length x.lc)) (by kernel_rfl) (cell_of_blk (hs5.old hb) rfl)) ?_
    refine ops_run 1 (by kernel_rfl) ?_
    have hk11 : k < l.length := by omega
    refine ops_R (runs_index (a := x.la) (n := l.length) (z := (k : Int)) (size := 2) k rfl hk11 (kWr.addr (hs5.oldCells ho) hk11) (by kernel_rfl)) ?_
    refine ops_run 1 (by kernel_rfl) ?_
    refine ops_R (runs_load (ad := ((adr x.la (k * 2)).add 0)) (v := (.int .i64 ((l.getD k (0, 0)).1))) (by kernel_rfl) (kWr.at (hs5.oldCells ho) hk11 (0, 0) 0 rfl)) ?_
    refine ops_run 2 (by kernel_rfl) ?_
    refine ops_done (by kernel_rfl) ?_
    refine hK10 _ _ ?_
    clear hK10
    refine W.cond (decide ((l.getD k (0, 0)).1 = at_)) (by kernel_rfl) (fun h12 => ?_) (fun h12 => ?_)
    ·
      have h12p : (l.getD k (0, 0)).1 = at_ := of_decide_eq_true h12
      refine W.seq fun K13 hK13 => ?_
      refine W.region ?_
      refine ops_run 2 (by kernel_rfl) ?_
      refine ops_done (by kernel_rfl) ?_
      refine hK13 _ _ ?_
      clear hK13
      refine W.ret (ret_block (ret_seq (ret_seq (ret_block (ret_seq ?_)))))
      refine ret_of (.int .i64 (k : Int)) (by kernel_rfl) ⟨_, ⟨_, .inr ⟨k, rfl, by omega, by assumption⟩, rfl, rfl⟩, hs5⟩
    ·
      have h12p : ¬ ((l.getD k (0, 0)).1 = at_) := of_decide_eq_false h12
      refine W.skip ?_
      refine normal_block ?_
      refine hK9 _ _ ?_
      clear hK9
      refine W.region ?_
      refine ops_run 1 (by kernel_rfl) ?_
      refine ops_val (v := .int .i64 (IntKind.i64.wrap ((k : Int) + 1))) (v' := .int .i64 ((k + 1 : Nat) : Int)) (by kernel_rfl) (congrArg (Value.int .i64) (wrap_i64 (by omega) (by omega))) ?_
      refine ops_run 1 (by kernel_rfl) ?_
      refine ops_done (by kernel_rfl) ?_
      have hk2 : ∀ j, j < k + 1 → ¬ (l.getD j (0, 0)).1 = at_ := fun j hj => (Nat.lt_succ_iff_lt_or_eq.1 hj).elim (hk1 j) (fun e => by subst e; assumption)
      exact ⟨k + 1, ⟨slots_intro _ (by kernel_rfl), hs5, by omega, hk2⟩, by first | omega | (dsimp only; omega)⟩
  ·
    have h8p : ¬ ((k : Int) < (l.length : Int)) := of_decide_eq_false h8
    refine W.exit (exit_seq (exit_seq (exit_here ?_)))
    refine hK2 _ _ ?_
    clear hK2
    refine W.seq fun K14 hK14 => ?_
    refine W.region ?_
    refine ops_run 1 (by kernel_rfl) ?_
    refine ops_done (by kernel_rfl) ?_
    refine hK14 _ _ ?_
    clear hK14
    refine W.ret ?_
    refine ret_of (.int .i64 (-1)) (by kernel_rfl) ⟨_, ⟨_, .inl ⟨rfl, find_none (fun j hj => hk1 j (by omega))⟩, rfl, rfl⟩, hs5⟩

set_option maxRecDepth 20000 in
theorem rget_spec {p : Value} {img : List Int} {l : List (Int × Int)} {at_ : Int} (B : Nat) (w : World) (hv : RefAt p img l w) : Spec Tryd.prog 109 #[p, (.int .i64 at_)] B w [] (fun v H' => v = .int .u64 (vget img l at_) ∧ H' = []) := by
  refine spec_Q Tryd.func109 rfl fun hs => ?_
  have hv0 := hv
  obtain ⟨x, rfl, hok, hb, hi, ho, hcap⟩ := hv
  have hroom := hok.many
  have hroom2 := hok.size
  refine W.seq fun K1 hK1 => ?_
  refine W.region ?_
  refine ops_run 1 (by kernel_rfl) ?_
  refine ops_done (by kernel_rfl) ?_
  refine hK1 _ _ ?_
  clear hK1
  refine W.seq fun K2 hK2 => ?_
  refine W.seq fun K3 hK3 => ?_
  refine W.region ?_
  refine ops_run 3 (by kernel_rfl) ?_
  rcases Bool.eq_false_or_eq_true (decide (at_ < 0)) with h4 | h4
  ·
    have h4p : at_ < 0 := of_decide_eq_true h4
    refine ops_set 8 (v := .bool true) (eq_bool_of (by kernel_rfl) h4) ?_
    refine ops_set 7 (v := .bool true) (eq_bool_of (by kernel_rfl) h4) ?_
    refine ops_run 8 (by kernel_rfl) ?_
    refine ops_done (by kernel_rfl) ?_
    refine hK3 _ _ ?_
    clear hK3
    refine W.cond_true true (by kernel_rfl) rfl ?_
    refine W.seq fun K5 hK5 => ?_
    refine W.region ?_
    refine ops_run 1 (by kernel_rfl) ?_
    refine ops_done (by kernel_rfl) ?_
    refine hK5 _ _ ?_
    clear hK5
    refine W.ret (ret_seq ?_)
    refine ret_of (.int .u64 0) (by kernel_rfl) ⟨_, ⟨congrArg (Value.int .u64) (by simp only [vget]; rw [if_neg (by omega)]), rfl⟩, hs⟩
  ·
    have h4p : ¬ (at_ < 0) := of_decide_eq_false h4
    refine ops_set 8 (v := .bool false) (eq_bool_of (by kernel_rfl) h4) ?_
    refine ops_set 7 (v := .bool false) (eq_bool_of (by kernel_rfl) h4) ?_
    refine ops_run 4 (by kernel_rfl) ?_
    refine ops_R (runs_load (ad := ⟨x.b, 0, none⟩) (v := (.slice x.ia img.length x.ic)) (by kernel_rfl) (cell_of_blk (hs.old hb) rfl)) ?_
    refine ops_run 3 (by kernel_rfl) ?_
    refine ops_done (by kernel_rfl) ?_
    refine hK3 _ _ ?_
    clear hK3
    refine W.cond (decide (at_ ≥ (img.length : Int))) (by kernel_rfl) (fun h6 => ?_) (fun h6 => ?_)
    ·
      have h6p : at_ ≥ (img.length : Int) := of_decide_eq_true h6
      refine W.seq fun K7 hK7 => ?_
      refine W.region ?_
      refine ops_run 1 (by kernel_rfl) ?_
      refine ops_done (by kernel_rfl) ?_
      refine hK7 _ _ ?_
      clear hK7
      refine W.ret (ret_seq ?_)
      refine ret_of (.int .u64 0) (by kernel_rfl) ⟨_, ⟨congrArg (Value.int .u64) (by simp only [vget]; rw [if_neg (by omega)]), rfl⟩, hs⟩
    ·
      have h6p : ¬ (at_ ≥ (img.length : Int)) := of_decide_eq_false h6
      refine W.skip ?_
      refine hK2 _ _ ?_
      clear hK2
      refine W.seq fun K8 hK8 => ?_
      refine W.region ?_
      refine ops_run 2 (by kernel_rfl) ?_
      refine ops_call0 hs (by kernel_rfl) (find_spec (p := (.pointer (some ⟨x.b, 0, none⟩))) (img := img) (l := l) (at_ := at_) (hv := (refAt_old hs hv0)) B _) ?_
      rintro _ _ w11 ⟨r9, hr10, rfl, rfl⟩ hs12
      have hs13 := St.ap0 hs12
      refine ops_run 1 (by kernel_rfl) ?_
      refine ops_done (by kernel_rfl) ?_
      refine hK8 _ _ ?_
      clear hK8
      refine W.seq fun K14 hK14 => ?_
      refine W.seq fun K15 hK15 => ?_
      refine W.region ?_
      refine ops_run 2 (by kernel_rfl) ?_
      refine ops_done (by kernel_rfl) ?_
      refine hK15 _ _ ?_
      clear hK15
      refine W.cond (decide (r9 ≥ 0)) (by kernel_rfl) (fun h16 => ?_) (fun h16 => ?_)
      ·
        have h16p : r9 ≥ 0 := of_decide_eq_true h16
        have hlt := FindR.lt hr10 (by omega)
        refine W.seq fun K17 hK17 => ?_
        refine W.region ?_
        refine ops_run 3 (by kernel_rfl) ?_
        refine ops_R (runs_load (ad := ⟨x.b, 1, none⟩) (v := (.slice x.la l.length x.lc)) (by kernel_rfl) (cell_of_blk (hs13.old hb) rfl)) ?_
        refine ops_run 1 (by kernel_rfl) ?_
        have hk18 : r9.toNat < l.length := by omega
        refine ops_R (runs_index (a := x.la) (n := l.length) (z := r9) (size := 2) r9.toNat (by omega) hk18 (kWr.addr (hs13.oldCells ho) hk18) (by kernel_rfl)) ?_
        refine ops_run 1 (by kernel_rfl) ?_
        refine ops_R (runs_load (ad := ((adr x.la (r9.toNat * 2)).add 1)) (v := (.int .u64 ((l.getD r9.toNat (0, 0)).2))) (by kernel_rfl) (kWr.at (hs13.oldCells ho) hk18 (0, 0) 1 rfl)) ?_
        refine ops_run 1 (by kernel_rfl) ?_
        refine ops_done (by kernel_rfl) ?_
        refine hK17 _ _ ?_
        clear hK17
        refine W.ret (ret_seq ?_)
        refine ret_of (.int .u64 ((l.getD r9.toNat (0, 0)).2)) (by kernel_rfl) ⟨_, ⟨congrArg (Value.int .u64) (rget_some hok.keys hr10 (by omega) (by omega)), rfl⟩, hs13⟩
      ·
        have h16p : ¬ (r9 ≥ 0) := of_decide_eq_false h16
        refine W.skip ?_
        refine hK14 _ _ ?_
        clear hK14
        refine W.seq fun K19 hK19 => ?_
        refine W.region ?_
        refine ops_run 3 (by kernel_rfl) ?_
        refine ops_R (runs_load (ad := ⟨x.b, 0, none⟩) (v := (.slice x.ia img.length x.ic)) (by kernel_rfl) (cell_of_blk (hs13.old hb) rfl)) ?_
        refine ops_run 1 (by kernel_rfl) ?_
        have hk20 : at_.toNat < img.length := by omega
        refine ops_R (runs_index (a := x.ia) (n := img.length) (z := at_) (size := 1) at_.toNat (by omega) hk20 (kU64.addr (hs13.oldCells hi) hk20) (by kernel_rfl)) ?_
        refine ops_R (runs_load (ad := ((adr x.ia (at_.toNat * 1)).add 0)) (v := (.int .u64 (img.getD at_.toNat 0))) (by kernel_rfl) (kU64.at (hs13.oldCells hi) hk20 0 0 rfl)) ?_
        refine ops_run 1 (by kernel_rfl) ?_
        refine ops_done (by kernel_rfl) ?_
        refine hK19 _ _ ?_
        clear hK19
        refine W.ret ?_
        refine ret_of (.int .u64 (img.getD at_.toNat 0)) (by kernel_rfl) ⟨_, ⟨congrArg (Value.int .u64) (rget_none hr10 (by omega) (by omega)), rfl⟩, hs13⟩

end Go.Proofs.YthimamnblklkbaaDoor

/- Contracts of the functions of the reference of view, by a program. -/
namespace Go.Proofs.YthimamnblklkbaaDoor
open Go Go.RowKit
set_option linter.unusedSimpArgs false
set_option linter.unusedVariables false

set_option maxRecDepth 20000 in
theorem rnew_spec {a : Option Addr} {c : Nat} {xs : List Int} (B : Nat) (w : World) (hc : CellsAt a (kU64.cells xs) w) (hn : a = none → c = 0) (hsz : xs.length ≤ 17592186044415) : Spec Tryd.prog 40 #[(.slice a xs.length c)] B w [] (fun v H' => ∃ b, v = ptr b ∧ H' = [refA (ptr b) xs []]) := by
  refine spec_Q Tryd.func40 rfl fun hs => ?_
  refine W.seq fun K1 hK1 => ?_
  refine W.region ?_
  refine ops_run 1 (by kernel_rfl) ?_
  refine ops_done (by kernel_rfl) ?_
  refine hK1 _ _ ?_
  clear hK1
  refine W.seq fun K2 hK2 => ?_
  refine W.region ?_
  refine ops_new (fun b => .slice (some ⟨b, 0, none⟩) 0 0) (.cells [].toArray 38 (0, 0)) hs (by kernel_rfl) (fun b5 w3 hs4 => ?_)
  refine ops_run 1 (by kernel_rfl) ?_
  have hs6 : St B w [] w3 [kU64.row (some ⟨b5, 0, none⟩) 0 ([])] := St.kblk kU64 [] hs4 rfl rfl (by simp only [List.length_cons, List.length_nil]; decide)
  refine ops_appendK kU64 (bytes := 8) (a' := a) (c' := c) (l := []) (m := xs) hs6 (by kernel_rfl) hn (hs6.oldCells hc) (by (unfold maxLen; try simp) <;> omega) (by (try simp) <;> omega) (fun a7 c8 w9 hs10 => ?_)
  have hs11 : St B w [] w9 [kU64.row a7 c8 xs] := hs10
  refine ops_run 1 (by kernel_rfl) ?_
  refine ops_new (fun b => .pointer (some ⟨b, 0, none⟩)) (.cells [(.slice a7 xs.length c8), (.slice none 0 0), (.bool false)].toArray 71 (0, 0)) hs11 (by kernel_rfl) (fun b14 w12 hs13 => ?_)
  refine ops_run 1 (by kernel_rfl) ?_
  refine ops_done (by kernel_rfl) ?_
  refine hK2 _ _ ?_
  clear hK2
  refine W.ret ?_
  have hk := St.knil kWr hs13
  have hk2 := hk.perm (H' := [blk b14 (.cells [(.slice a7 xs.length c8), (.slice none 0 0), (.bool false)].toArray 71 (0, 0)), kU64.row a7 c8 xs, kWr.row none 0 []]) (perm_last _ _)
  refine ret_of (.pointer (some ⟨b14, 0, none⟩)) (by kernel_rfl) ⟨_, ⟨b14, rfl, rfl⟩, ?_⟩
  exact ref_close (l := []) (ia := a7) (ic := c8) (la := none) (lc := 0) (many := false) (VOk.nil hsz) hk2

set_option maxRecDepth 20000 in
theorem rput_spec {p : Value} {img : List Int} {l : List (Int × Int)} {at_ x_ : Int} (B : Nat) (w : World) : Spec Tryd.prog 114 #[p, (.int .i64 at_), (.int .u64 x_)] B w [refA p img l] (fun v H' => v = .int .i64 (vput img l at_ x_).1 ∧ H' = [refA p img (vput img l at_ x_).2]) := by
  refine spec_W Tryd.func114 rfl fun l0 hs => ?_
  obtain ⟨x, ⟨rfl, hok⟩, hs0⟩ := St.open hs
  have hs1 : St B w l0 w [blk x.b (.cells [(.slice x.ia img.length x.ic), (.slice x.la l.length x.lc), (.bool x.many)].toArray 71 (0, 0)), kU64.row x.ia x.ic img, kWr.row x.la x.lc l] := hs0
  have hroom := hok.many
  have hroom2 := hok.size
  refine W.seq fun K1 hK1 => ?_
  refine W.region ?_
  refine ops_run 1 (by kernel_rfl) ?_
  refine ops_done (by kernel_rfl) ?_
  refine hK1 _ _ ?_
  clear hK1
  refine W.seq fun K2 hK2 => ?_
  refine W.seq fun K3 hK3 => ?_
  refine W.region ?_
  refine ops_run 3 (by kernel_rfl) ?_
  rcases Bool.eq_false_or_eq_true (decide (at_ < 0)) with h4 | h4
  ·
    have h4p : at_ < 0 := of_decide_eq_true h4
    refine ops_set 10 (v := .bool true) (eq_bool_of (by kernel_rfl) h4) ?_
    refine ops_set 9 (v := .bool true) (eq_bool_of (by kernel_rfl) h4) ?_
    refine ops_run 8 (by kernel_rfl) ?_
    refine ops_done (by kernel_rfl) ?_
    refine hK3 _ _ ?_
    clear hK3
    refine W.cond_true true (by kernel_rfl) rfl ?_
    refine W.seq fun K5 hK5 => ?_
    refine W.region ?_
    refine ops_run 1 (by kernel_rfl) ?_
    refine ops_done (by kernel_rfl) ?_
    refine hK5 _ _ ?_
    clear hK5
    refine W.ret (ret_seq ?_)
    have hs_ := hs1
    have e_ : vput img l at_ x_ = (8, l) := by simp only [vput]; rw [if_neg (by omega)]
    refine ret_of (.int .i64 8) (by kernel_rfl) ⟨_, ⟨by rw [e_], rfl⟩, by rw [e_]; exact ref_close (l := l) (ia := x.ia) (ic := x.ic) (la := x.la) (lc := x.lc) (many := x.many) hok hs_⟩
  ·
    have h4p : ¬ (at_ < 0) := of_decide_eq_false h4
    refine ops_set 10 (v := .bool false) (eq_bool_of (by kernel_rfl) h4) ?_
    refine ops_set 9 (v := .bool false) (eq_bool_of (by kernel_rfl) h4) ?_
    refine ops_run 4 (by kernel_rfl) ?_
    refine ops_R (runs_load (ad := ⟨x.b, 0, none⟩) (v := (.slice x.ia img.length x.ic)) (by kernel_rfl) (hs1.cellAt 0 rfl rfl)) ?_
    refine ops_run 3 (by kernel_rfl) ?_
    refine ops_done (by kernel_rfl) ?_
    refine hK3 _ _ ?_
    clear hK3
    refine W.cond (decide (at_ ≥ (img.length : Int))) (by kernel_rfl) (fun h6 => ?_) (fun h6 => ?_)
    ·
      have h6p : at_ ≥ (img.length : Int) := of_decide_eq_true h6
      refine W.seq fun K7 hK7 => ?_
      refine W.region ?_
      refine ops_run 1 (by kernel_rfl) ?_
      refine ops_done (by kernel_rfl) ?_
      refine hK7 _ _ ?_
      clear hK7
      refine W.ret (ret_seq ?_)
      have hs_ := hs1
      have e_ : vput img l at_ x_ = (8, l) := by simp only [vput]; rw [if_neg (by omega)]
      refine ret_of (.int .i64 8) (by kernel_rfl) ⟨_, ⟨by rw [e_], rfl⟩, by rw [e_]; exact ref_close (l := l) (ia := x.ia) (ic := x.ic) (la := x.la) (lc := x.lc) (many := x.many) hok hs_⟩
    ·
      have h6p : ¬ (at_ ≥ (img.length : Int)) := of_decide_eq_false h6
      refine W.skip ?_
      refine hK2 _ _ ?_
      clear hK2
      refine W.seq fun K8 hK8 => ?_
      refine W.region ?_
      refine ops_run 2 (by kernel_rfl) ?_
      refine ops_call0 hs1 (by kernel_rfl) (find_spec (p := (.pointer (some ⟨x.b, 0, none⟩))) (img := img) (l := l) (at_ := at_) (hv := ⟨x, rfl, hok, hs1.heapAt 0 rfl, St.kcells kU64 hs1 1 rfl, St.kcells kWr hs1 2 rfl, St.capnil kU64 hs1 1 rfl⟩) B _) ?_
      rintro _ _ w11 ⟨r9, hr10, rfl, rfl⟩ hs12
      have hs13 := St.ap0 hs12
      refine ops_run 1 (by kernel_rfl) ?_
      refine ops_done (by kernel_rfl) ?_
      refine hK8 _ _ ?_
      clear hK8
      refine W.seq fun K14 hK14 => ?_
      refine W.seq fun K15 hK15 => ?_
      refine W.region ?_
      refine ops_run 2 (by kernel_rfl) ?_
      refine ops_done (by kernel_rfl) ?_
      refine hK15 _ _ ?_
      clear hK15
      refine W.cond (decide (r9 ≥ 0)) (by kernel_rfl) (fun h16 => ?_) (fun h16 => ?_)
      ·
        have h16p : r9 ≥ 0 := of_decide_eq_true h16
        have hlt := FindR.lt hr10 (by omega)
        refine W.seq fun K17 hK17 => ?_
        refine W.region ?_
        refine ops_run 3 (by kernel_rfl) ?_
        refine ops_R (runs_load (ad := ⟨x.b, 1, none⟩) (v := (.slice x.la l.length x.lc)) (by kernel_rfl) (hs13.cellAt 0 rfl rfl)) ?_
        refine ops_run 2 (by kernel_rfl) ?_
        have hk18 : r9.toNat < l.length := by omega
        refine ops_R (runs_index (a := x.la) (n := l.length) (z := r9) (size := 2) r9.toNat (by omega) hk18 (kWr.addr (St.kcells kWr hs13 2 rfl) hk18) (by kernel_rfl)) ?_
        refine ops_run 1 (by kernel_rfl) ?_
        have hs21 := St.f2 hs13
        refine ops_storeK kWr (j := 1) (vs := [(.int .u64 x_)]) (0, 0) ((l.getD r9.toNat (0, 0)).1, x_) hs21 hk18 (Nat.le_of_ble_eq_true rfl) (by simp) rfl rfl (by kernel_rfl) (fun w19 hs20 => ?_)
        refine ops_done (by kernel_rfl) ?_
        refine hK17 _ _ ?_
        clear hK17
        refine W.seq fun K23 hK23 => ?_
        refine W.region ?_
        refine ops_run 1 (by kernel_rfl) ?_
        refine ops_done (by kernel_rfl) ?_
        refine hK23 _ _ ?_
        clear hK23
        refine W.ret (ret_seq ?_)
        have hs24 := St.f2 hs20
        have hs25 := St.f2 hs24
        have hs_ := hs25
        have e_ : vput img l at_ x_ = (0, vset l at_ x_) := rput_some hok.keys hr10 (by omega) (by omega)
        rw [← vset_length_some (v := x_) (FindR.isSome hok.keys hr10 (by omega))] at hs_
        have el_ := rput_set (x := x_) hok.keys hr10 (by omega)
        rw [el_] at hs_
        refine ret_of (.int .i64 0) (by kernel_rfl) ⟨_, ⟨by rw [e_], rfl⟩, by rw [e_]; exact ref_close (l := (vset l at_ x_)) (ia := x.ia) (ic := x.ic) (la := x.la) (lc := x.lc) (many := x.many) (hok.put (by omega) (.inl (FindR.isSome hok.keys hr10 (by omega)))) hs_⟩
      ·
        have h16p : ¬ (r9 ≥ 0) := of_decide_eq_false h16
        refine W.skip ?_
        refine hK14 _ _ ?_
        clear hK14
        refine W.seq fun K26 hK26 => ?_
        refine W.seq fun K27 hK27 => ?_
        refine W.region ?_
        refine ops_run 3 (by kernel_rfl) ?_
        refine ops_R (runs_load (ad := ⟨x.b, 1, none⟩) (v := (.slice x.la l.length x.lc)) (by kernel_rfl) (hs13.cellAt 0 rfl rfl)) ?_
        refine ops_run 2 (by kernel_rfl) ?_
        refine ops_done (by kernel_rfl) ?_
        refine hK27 _ _ ?_
        clear hK27
        refine W.cond (decide ((l.length : Int) ≥ 96)) (by kernel_rfl) (fun h28 => ?_) (fun h28 => ?_)
        ·
          have h28p : (l.length : Int) ≥ 96 := of_decide_eq_true h28
          refine W.seq fun K29 hK29 => ?_
          refine W.region ?_
          refine ops_run 3 (by kernel_rfl) ?_
          refine ops_store (off := 2) (cs := [(.slice x.ia img.length x.ic), (.slice x.la l.length x.lc), (.bool x.many)]) (vs := [(.bool true)]) hs13 (by kernel_rfl) (by simp) rfl (fun w30 hs31 => ?_)
          have hs32 : St B w l0 w30 [blk x.b (.cells [(.slice x.ia img.length x.ic), (.slice x.la l.length x.lc), (.bool true)].toArray 71 (0, 0)), kU64.row x.ia x.ic img, kWr.row x.la x.lc l] := hs31
          refine ops_done (by kernel_rfl) ?_
          refine hK29 _ _ ?_
          clear hK29
          refine W.seq fun K33 hK33 => ?_
          refine W.region ?_
          refine ops_run 1 (by kernel_rfl) ?_
          refine ops_done (by kernel_rfl) ?_
          refine hK33 _ _ ?_
          clear hK33
          refine W.ret (ret_seq ?_)
          have hs_ := hs32
          have e_ : vput img l at_ x_ = (5, l) := rput_many hr10 (by omega) (by omega) (by omega)
          refine ret_of (.int .i64 5) (by kernel_rfl) ⟨_, ⟨by rw [e_], rfl⟩, by rw [e_]; exact ref_close (l := l) (ia := x.ia) (ic := x.ic) (la := x.la) (lc := x.lc) (many := true) hok hs_⟩
        ·
          have h28p : ¬ ((l.length : Int) ≥ 96) := of_decide_eq_false h28
          refine W.skip ?_
          refine hK26 _ _ ?_
          clear hK26
          refine W.seq fun K34 hK34 => ?_
          refine W.region ?_
          refine ops_run 4 (by kernel_rfl) ?_
          refine ops_R (runs_load (ad := ⟨x.b, 1, none⟩) (v := (.slice x.la l.length x.lc)) (by kernel_rfl) (hs13.cellAt 0 rfl rfl)) ?_
          refine ops_run 3 (by kernel_rfl) ?_
          refine ops_new (fun b => .slice (some ⟨b, 0, none⟩) 1 1) (.cells [(.int .i64 at_), (.int .u64 x_)].toArray 177 (0, 0)) hs13 (by kernel_rfl) (fun b37 w35 hs36 => ?_)
          have hs38 := St.f3 hs36
          refine ops_appendK kWr (bytes := 16) (a' := (some ⟨b37, 0, none⟩)) (c' := 1) (l := l) (m := [(at_, x_)]) hs38 (by kernel_rfl) (by simp) (cells_blk (hs38.heapAt 1 rfl)) (by (unfold maxLen; try simp) <;> omega) (by (try simp) <;> omega) (fun a39 c40 w41 hs42 => ?_)
          refine ops_run 2 (by kernel_rfl) ?_
          have hs45 := St.f2 hs42
          refine ops_store (off := 1) (cs := [(.slice x.ia img.length x.ic), (.slice x.la l.length x.lc), (.bool x.many)]) (vs := [(.slice a39 ((l ++ [(at_, x_)]).length) c40)]) hs45 (by kernel_rfl) (by simp) rfl (fun w43 hs44 => ?_)
          have hs46 : St B w l0 w43 [blk x.b (.cells [(.slice x.ia img.length x.ic), (.slice a39 ((l ++ [(at_, x_)]).length) c40), (.bool x.many)].toArray 71 (0, 0)), kWr.row a39 c40 (l ++ [(at_, x_)]), blk b37 (.cells [(.int .i64 at_), (.int .u64 x_)].toArray 177 (0, 0)), kU64.row x.ia x.ic img] := hs44
          refine ops_done (by kernel_rfl) ?_
          refine hK34 _ _ ?_
          clear hK34
          refine W.seq fun K47 hK47 => ?_
          refine W.region ?_
          refine ops_run 1 (by kernel_rfl) ?_
          refine ops_done (by kernel_rfl) ?_
          refine hK47 _ _ ?_
          clear hK47
          refine W.ret ?_
          have hs48 := St.f1 hs46
          have hs49 := St.f3 hs48
          have hs50 := St.f2 hs49
          have hs51 := St.tk3 hs50
          have hs_ := hs51
          have e_ : vput img l at_ x_ = (0, vset l at_ x_) := rput_new hr10 (by omega) (by omega) (by omega)
          have el_ := rput_app (x := x_) hr10 (by omega)
          rw [el_] at hs_
          refine ret_of (.int .i64 0) (by kernel_rfl) ⟨_, ⟨by rw [e_], rfl⟩, by rw [e_]; exact ref_close (l := (vset l at_ x_)) (ia := x.ia) (ic := x.ic) (la := a39) (lc := c40) (many := x.many) (hok.put (by omega) (.inr (by omega))) hs_⟩

set_option maxRecDepth 20000 in
theorem rflat_spec {p : Value} {img : List Int} {l : List (Int × Int)} (B : Nat) (w : World) (hv : RefAt p img l w) : Spec Tryd.prog 88 #[p] B w [] (fun v H' => ∃ a' c', v = .slice a' (vflat img l).length c' ∧ H' = [kU64.row a' c' (vflat img l)]) := by
  refine spec_Q Tryd.func88 rfl fun hs => ?_
  have hv0 := hv
  obtain ⟨x, rfl, hok, hb, hi, ho, hcap⟩ := hv
  have hroom := hok.many
  have hroom2 := hok.size
  refine W.seq fun K1 hK1 => ?_
  refine W.region ?_
  refine ops_run 1 (by kernel_rfl) ?_
  refine ops_done (by kernel_rfl) ?_
  refine hK1 _ _ ?_
  clear hK1
  refine W.seq fun K2 hK2 => ?_
  refine W.region ?_
  refine ops_new (fun b => .slice (some ⟨b, 0, none⟩) 0 0) (.cells [].toArray 38 (0, 0)) hs (by kernel_rfl) (fun b5 w3 hs4 => ?_)
  refine ops_run 3 (by kernel_rfl) ?_
  refine ops_R (runs_load (ad := ⟨x.b, 0, none⟩) (v := (.slice x.ia img.length x.ic)) (by kernel_rfl) (cell_of_blk (hs4.old hb) rfl)) ?_
  have hs6 : St B w [] w3 [kU64.row (some ⟨b5, 0, none⟩) 0 ([])] := St.kblk kU64 [] hs4 rfl rfl (by simp only [List.length_cons, List.length_nil]; decide)
  refine ops_appendK kU64 (bytes := 8) (a' := x.ia) (c' := x.ic) (l := []) (m := img) hs6 (by kernel_rfl) hcap (hs6.oldCells hi) (by (unfold maxLen; try simp) <;> omega) (by (try simp) <;> omega) (fun a7 c8 w9 hs10 => ?_)
  have hs11 : St B w [] w9 [kU64.row a7 c8 img] := hs10
  refine ops_run 1 (by kernel_rfl) ?_
  refine ops_done (by kernel_rfl) ?_
  refine hK2 _ _ ?_
  clear hK2
  refine W.seq fun K12 hK12 => ?_
  refine W.seq fun K13 hK13 => ?_
  refine W.region ?_
  refine ops_run 1 (by kernel_rfl) ?_
  refine ops_done (by kernel_rfl) ?_
  refine hK13 _ _ ?_
  clear hK13
  refine W.block ?_
  refine W.loop (G := Nat) (fun | k, s_, w_ => (∃ us, s_ = slots 39 [(0, (.pointer (some ⟨x.b, 0, none⟩))), (3, (.slice a7 img.length c8)), (4, (.int .i64 (k : Int)))] us) ∧ St B w [] w_ [kU64.row a7 c8 (vflat img (l.take k))] ∧ (k ≤ l.length)) (fun k => l.length - k) 0 ⟨slots_intro _ (by kernel_rfl), hs11, Nat.zero_le _⟩ ?_
  rintro k _ w14 ⟨⟨us, rfl⟩, hs15, hk_⟩
  refine W.seq fun K16 hK16 => ?_
  refine W.seq fun K17 hK17 => ?_
  refine W.region ?_
  refine ops_run 4 (by kernel_rfl) ?_
  refine ops_R (runs_load (ad := ⟨x.b, 1, none⟩) (v := (.slice x.la l.length x.lc)) (by kernel_rfl) (cell_of_blk (hs15.old hb) rfl)) ?_
  refine ops_run 2 (by kernel_rfl) ?_
  refine ops_done (by kernel_rfl) ?_
  refine hK17 _ _ ?_
  clear hK17
  refine W.cond (decide ((k : Int) < (l.length : Int))) (by kernel_rfl) (fun h18 => ?_) (fun h18 => ?_)
  ·
    have h18p : (k : Int) < (l.length : Int) := of_decide_eq_true h18
    have hin := hok.inside (l.getD k (0, 0)) (by simp [show k < l.length by omega])
    refine W.skip ?_
    refine hK16 _ _ ?_
    clear hK16
    refine W.seq fun K19 hK19 => ?_
    refine W.block ?_
    have hs20 := hs15.drew
    have hs21 := St.tk0 hs20
    refine W.regionD [(0, 0), (0, 0), (2, 2), (4, 4), (8, 8), (0, 0), (48, 48), (64, 64), (128, 128), (0, 0), (512, 512), (1024, 1024), (2048, 2048), (0, 0), (12288, 12288), (16384, 16384), (32768, 32768), (131071, 257), (262143, 196608)] (fun w_ => St B w [] w_ []) (by kernel_rfl) hs21 ?_
    refine any_val (v := (.slice a7 img.length c8)) (v' := (.slice a7 img.length c8)) 0 (by kernel_rfl) (fun _ => by kernel_rfl) rfl hs21 ?_
    refine any_val (v := (.pointer (some ⟨x.b, 0, none⟩))) (v' := (.pointer (some ⟨x.b, 0, none⟩))) 1 (by kernel_rfl) (fun _ => by kernel_rfl) rfl hs21 ?_
    refine any_val (v := (.pointer (some ⟨x.b, 0, none⟩))) (v' := (.pointer (some ⟨x.b, 0, none⟩))) 2 (by kernel_rfl) (fun _ => by kernel_rfl) rfl hs21 ?_
    refine any_val (v := (.pointer (some ⟨x.b, 1, none⟩))) (v' := (.pointer (some ⟨x.b, 1, none⟩))) 3 (by kernel_rfl) (fun _ => by kernel_rfl) rfl hs21 ?_
    refine any_R 4 (by kernel_rfl) (fun _ hS_ => runs_load (ad := ⟨x.b, 1, none⟩) (v := (.slice x.la l.length x.lc)) (by kernel_rfl) (cell_of_blk (hS_.old hb) rfl)) hs21 ?_
    refine any_val (v := (.int .i64 (k : Int))) (v' := (.int .i64 (k : Int))) 5 (by kernel_rfl) (fun _ => by kernel_rfl) rfl hs21 ?_
    have hk22 : k < l.length := by omega
    refine any_R 6 (by kernel_rfl) (fun _ hS_ => runs_index (a := x.la) (n := l.length) (z := (k : Int)) (size := 2) k rfl hk22 (kWr.addr (hs20.oldCells ho) hk22) (by kernel_rfl)) hs21 ?_
    refine any_val (v := (.pointer (some (adr x.la (k * 2))))) (v' := (.pointer (some (adr x.la (k * 2))))) 7 (by kernel_rfl) (fun _ => by kernel_rfl) rfl hs21 ?_
    refine any_R 8 (by kernel_rfl) (fun _ hS_ => runs_load (ad := ((adr x.la (k * 2)).add 0)) (v := (.int .i64 ((l.getD k (0, 0)).1))) (by kernel_rfl) (kWr.at (hS_.oldCells ho) hk22 (0, 0) 0 rfl)) hs21 ?_
    refine any_val (v := (.pointer (some ⟨x.b, 0, none⟩))) (v' := (.pointer (some ⟨x.b, 0, none⟩))) 9 (by kernel_rfl) (fun _ => by kernel_rfl) rfl hs21 ?_
    refine any_val (v := (.pointer (some ⟨x.b, 0, none⟩))) (v' := (.pointer (some ⟨x.b, 0, none⟩))) 10 (by kernel_rfl) (fun _ => by kernel_rfl) rfl hs21 ?_
    refine any_val (v := (.pointer (some ⟨x.b, 1, none⟩))) (v' := (.pointer (some ⟨x.b, 1, none⟩))) 11 (by kernel_rfl) (fun _ => by kernel_rfl) rfl hs21 ?_
    refine any_R 12 (by kernel_rfl) (fun _ hS_ => runs_load (ad := ⟨x.b, 1, none⟩) (v := (.slice x.la l.length x.lc)) (by kernel_rfl) (cell_of_blk (hS_.old hb) rfl)) hs21 ?_
    refine any_val (v := (.int .i64 (k : Int))) (v' := (.int .i64 (k : Int))) 13 (by kernel_rfl) (fun _ => by kernel_rfl) rfl hs21 ?_
    have hk23 : k < l.length := by omega
    refine any_R 14 (by kernel_rfl) (fun _ hS_ => runs_index (a := x.la) (n := l.length) (z := (k : Int)) (size := 2) k rfl hk23 (kWr.addr (hs20.oldCells ho) hk23) (by kernel_rfl)) hs21 ?_
    refine any_val (v := (.pointer (some ((adr x.la (k * 2)).add 1)))) (v' := (.pointer (some ((adr x.la (k * 2)).add 1)))) 15 (by kernel_rfl) (fun _ => by kernel_rfl) rfl hs21 ?_
    refine any_R 16 (by kernel_rfl) (fun _ hS_ => runs_load (ad := ((adr x.la (k * 2)).add 1)) (v := (.int .u64 ((l.getD k (0, 0)).2))) (by kernel_rfl) (kWr.at (hS_.oldCells ho) hk23 (0, 0) 1 rfl)) hs21 ?_
    have hk24 : ((l.getD k (0, 0)).1).toNat < img.length := by omega
    have hk25 : ((l.getD k (0, 0)).1).toNat < (vflat img (l.take k)).length := (by rw [vflat_length]; exact hk24)
    refine any_R 17 (by kernel_rfl) (fun _ hS_ => runs_index (a := a7) (n := img.length) (z := (l.getD k (0, 0)).1) (size := 1) (((l.getD k (0, 0)).1).toNat) (by omega) hk24 (kU64.addr (St.kcells kU64 hs20 0 rfl) hk25) (by kernel_rfl)) hs21 ?_
    refine any_step 18 (by kernel_rfl) (by kernel_rfl) ?_
    refine ops_storeK kU64 (j := 0) (vs := [(.int .u64 ((l.getD k (0, 0)).2))]) 0 ((l.getD k (0, 0)).2) hs20 hk25 (Nat.le_of_ble_eq_true rfl) (by simp) rfl rfl (by kernel_rfl) (fun w26 hs27 => ?_)
    have hs29 := St.tk0 hs27
    refine ops_done (by kernel_rfl) ⟨hs29, ?_⟩
    refine any_done (by kernel_rfl) ?_
    refine normal_block ?_
    refine hK19 _ _ ?_
    clear hK19
    refine W.region ?_
    refine ops_run 1 (by kernel_rfl) ?_
    refine ops_val (v := .int .i64 (IntKind.i64.wrap ((k : Int) + 1))) (v' := .int .i64 ((k + 1 : Nat) : Int)) (by kernel_rfl) (congrArg (Value.int .i64) (wrap_i64 (by omega) (by omega))) ?_
    refine ops_run 1 (by kernel_rfl) ?_
    refine ops_done (by kernel_rfl) ?_
    have e_ := vflat_step img (l := l) (k := k) (by omega)
    rw [e_] at hs27
    exact ⟨k + 1, ⟨slots_intro _ (by kernel_rfl), hs27, by omega⟩, by first | omega | (dsimp only; omega)⟩
  ·
    have h18p : ¬ ((k : Int) < (l.length : Int)) := of_decide_eq_false h18
    refine W.exit (exit_seq (exit_seq (exit_here ?_)))
    refine hK12 _ _ ?_
    clear hK12
    refine W.seq fun K30 hK30 => ?_
    refine W.region ?_
    refine ops_run 2 (by kernel_rfl) ?_
    refine ops_done (by kernel_rfl) ?_
    refine hK30 _ _ ?_
    clear hK30
    refine W.ret ?_
    have e2_ : l.take k = l := List.take_of_length_le (by omega)
    have hs_ := hs15
    rw [e2_] at hs_
    refine ret_of (.slice a7 img.length c8) (by kernel_rfl) ⟨_, ⟨a7, c8, by rw [vflat_length], rfl⟩, hs_⟩


end Go.Proofs.YthimamnblklkbaaDoor

/- Of no view; the anchor of layer 5, by a program. -/
namespace Go.Proofs.YthimamnblklkbaaDoor
open Go Go.RowKit
set_option linter.unusedSimpArgs false
set_option linter.unusedVariables false

set_option maxRecDepth 20000 in
theorem len_nil  (B : Nat) (w : World) : Spec Tryd.prog 90 #[(.pointer none)] B w [] (fun v H' => v = (.int .i64 0) ∧ H' = []) := by
  refine spec_Q Tryd.func90 rfl fun hs => ?_
  refine W.seq fun K1 hK1 => ?_
  refine W.region ?_
  refine ops_run 1 (by kernel_rfl) ?_
  refine ops_done (by kernel_rfl) ?_
  refine hK1 _ _ ?_
  clear hK1
  refine W.seq fun K2 hK2 => ?_
  refine W.seq fun K3 hK3 => ?_
  refine W.region ?_
  refine ops_run 2 (by kernel_rfl) ?_
  refine ops_done (by kernel_rfl) ?_
  refine hK3 _ _ ?_
  clear hK3
  refine W.cond_true true (by kernel_rfl) rfl ?_
  refine W.seq fun K4 hK4 => ?_
  refine W.region ?_
  refine ops_run 1 (by kernel_rfl) ?_
  refine ops_done (by kernel_rfl) ?_
  refine hK4 _ _ ?_
  clear hK4
  refine W.ret (ret_seq ?_)
  refine ret_of (.int .i64 0) (by kernel_rfl) ⟨_, ⟨rfl, rfl⟩, hs⟩

set_option maxRecDepth 20000 in
theorem put_nil {at_ x_ : Int} (B : Nat) (w : World) : Spec Tryd.prog 95 #[(.pointer none), (.int .i64 at_), (.int .u64 x_)] B w [] (fun v H' => v = (.int .i64 2) ∧ H' = []) := by
  refine spec_Q Tryd.func95 rfl fun hs => ?_
  refine W.seq fun K1 hK1 => ?_
  refine W.region ?_
  refine ops_run 1 (by kernel_rfl) ?_
  refine ops_done (by kernel_rfl) ?_
  refine hK1 _ _ ?_
  clear hK1
  refine W.seq fun K2 hK2 => ?_
  refine W.seq fun K3 hK3 => ?_
  refine W.region ?_
  refine ops_run 2 (by kernel_rfl) ?_
  refine ops_done (by kernel_rfl) ?_
  refine hK3 _ _ ?_
  clear hK3
  refine W.cond_true true (by kernel_rfl) rfl ?_
  refine W.seq fun K4 hK4 => ?_
  refine W.region ?_
  refine ops_run 1 (by kernel_rfl) ?_
  refine ops_done (by kernel_rfl) ?_
  refine hK4 _ _ ?_
  clear hK4
  refine W.ret (ret_seq ?_)
  refine ret_of (.int .i64 2) (by kernel_rfl) ⟨_, ⟨rfl, rfl⟩, hs⟩

set_option maxRecDepth 20000 in
theorem writes_nil  (B : Nat) (w : World) : Spec Tryd.prog 51 #[(.pointer none)] B w [] (fun v H' => v = (.slice none 0 0) ∧ H' = []) := by
  refine spec_Q Tryd.func51 rfl fun hs => ?_
  refine W.seq fun K1 hK1 => ?_
  refine W.region ?_
  refine ops_run 1 (by kernel_rfl) ?_
  refine ops_done (by kernel_rfl) ?_
  refine hK1 _ _ ?_
  clear hK1
  refine W.seq fun K2 hK2 => ?_
  refine W.seq fun K3 hK3 => ?_
  refine W.region ?_
  refine ops_run 2 (by kernel_rfl) ?_
  refine ops_done (by kernel_rfl) ?_
  refine hK3 _ _ ?_
  clear hK3
  refine W.cond_true true (by kernel_rfl) rfl ?_
  refine W.seq fun K4 hK4 => ?_
  refine W.region ?_
  refine ops_run 1 (by kernel_rfl) ?_
  refine ops_done (by kernel_rfl) ?_
  refine hK4 _ _ ?_
  clear hK4
  refine W.ret (ret_seq ?_)
  refine ret_of (.slice none 0 0) (by kernel_rfl) ⟨_, ⟨rfl, rfl⟩, hs⟩

set_option maxRecDepth 20000 in
theorem flat_nil  (B : Nat) (w : World) : Spec Tryd.prog 29 #[(.pointer none)] B w [] (fun v H' => v = (.slice none 0 0) ∧ H' = []) := by
  refine spec_Q Tryd.func29 rfl fun hs => ?_
  refine W.seq fun K1 hK1 => ?_
  refine W.region ?_
  refine ops_run 1 (by kernel_rfl) ?_
  refine ops_done (by kernel_rfl) ?_
  refine hK1 _ _ ?_
  clear hK1
  refine W.seq fun K2 hK2 => ?_
  refine W.seq fun K3 hK3 => ?_
  refine W.region ?_
  refine ops_run 2 (by kernel_rfl) ?_
  refine ops_done (by kernel_rfl) ?_
  refine hK3 _ _ ?_
  clear hK3
  refine W.cond_true true (by kernel_rfl) rfl ?_
  refine W.seq fun K4 hK4 => ?_
  refine W.region ?_
  refine ops_run 1 (by kernel_rfl) ?_
  refine ops_done (by kernel_rfl) ?_
  refine hK4 _ _ ?_
  clear hK4
  refine W.ret (ret_seq ?_)
  refine ret_of (.slice none 0 0) (by kernel_rfl) ⟨_, ⟨rfl, rfl⟩, hs⟩

set_option maxRecDepth 20000 in
theorem drop_nil  (B : Nat) (w : World) : Spec Tryd.prog 41 #[(.pointer none)] B w [] (fun v H' => v = (.tuple #[]) ∧ H' = []) := by
  refine spec_Q Tryd.func41 rfl fun hs => ?_
  refine W.seq fun K1 hK1 => ?_
  refine W.region ?_
  refine ops_run 2 (by kernel_rfl) ?_
  refine ops_done (by kernel_rfl) ?_
  refine hK1 _ _ ?_
  clear hK1
  refine W.cond_false false (by kernel_rfl) rfl ?_
  refine W.skip ?_
  refine ret_ofN (.tuple #[]) (by kernel_rfl) ⟨_, ⟨rfl, rfl⟩, hs⟩

set_option maxRecDepth 20000 in
theorem has_nil {at_ : Int} (B : Nat) (w : World) : Spec Tryd.prog 98 #[(.pointer none), (.int .i64 at_)] B w [] (fun v H' => v = .bool false ∧ H' = []) := by
  refine spec_Q Tryd.func98 rfl fun hs => ?_
  refine W.seq fun K1 hK1 => ?_
  refine W.region ?_
  refine ops_run 1 (by kernel_rfl) ?_
  refine ops_done (by kernel_rfl) ?_
  refine hK1 _ _ ?_
  clear hK1
  refine W.seq fun K2 hK2 => ?_
  refine W.region ?_
  refine ops_run 3 (by kernel_rfl) ?_
  rcases Bool.eq_false_or_eq_true (decide (at_ ≥ 0)) with h3 | h3
  ·
    have h3p : at_ ≥ 0 := of_decide_eq_true h3
    refine ops_set 7 (v := .bool true) (eq_bool_of (by kernel_rfl) h3) ?_
    refine ops_set 6 (v := .bool true) (eq_bool_of (by kernel_rfl) h3) ?_
    refine ops_run 2 (by kernel_rfl) ?_
    refine ops_call0 hs (by kernel_rfl) (len_nil B _) ?_
    rintro _ _ w4 ⟨rfl, rfl⟩ hs5
    have hs6 := St.ap0 hs5
    refine ops_run 3 (by kernel_rfl) ?_
    refine ops_done (by kernel_rfl) ?_
    refine hK2 _ _ ?_
    clear hK2
    refine W.ret ?_
    refine ret_of (.bool (decide (at_ < 0))) (by kernel_rfl) ⟨_, ⟨congrArg Value.bool (decide_eq_false (by omega)), rfl⟩, hs6⟩
  ·
    have h3p : ¬ (at_ ≥ 0) := of_decide_eq_false h3
    refine ops_set 7 (v := .bool false) (eq_bool_of (by kernel_rfl) h3) ?_
    refine ops_set 6 (v := .bool false) (eq_bool_of (by kernel_rfl) h3) ?_
    refine ops_run 6 (by kernel_rfl) ?_
    refine ops_done (by kernel_rfl) ?_
    refine hK2 _ _ ?_
    clear hK2
    refine W.ret ?_
    refine ret_of (.bool false) (by kernel_rfl) ⟨_, ⟨congrArg Value.bool rfl, rfl⟩, hs⟩

set_option maxRecDepth 20000 in
theorem get_nil {at_ : Int} (B : Nat) (w : World) : Spec Tryd.prog 28 #[(.pointer none), (.int .i64 at_)] B w [] (fun v H' => v = .int .u64 0 ∧ H' = []) := by
  refine spec_Q Tryd.func28 rfl fun hs => ?_
  refine W.seq fun K1 hK1 => ?_
  refine W.region ?_
  refine ops_run 1 (by kernel_rfl) ?_
  refine ops_done (by kernel_rfl) ?_
  refine hK1 _ _ ?_
  clear hK1
  refine W.seq fun K2 hK2 => ?_
  refine W.seq fun K3 hK3 => ?_
  refine W.region ?_
  refine ops_run 2 (by kernel_rfl) ?_
  refine ops_call0 hs (by kernel_rfl) (has_nil (at_ := at_) B _) ?_
  rintro _ _ w4 ⟨rfl, rfl⟩ hs5
  have hs6 := St.ap0 hs5
  refine ops_run 1 (by kernel_rfl) ?_
  refine ops_done (by kernel_rfl) ?_
  refine hK3 _ _ ?_
  clear hK3
  refine W.cond_true true (by kernel_rfl) rfl ?_
  refine W.seq fun K7 hK7 => ?_
  refine W.region ?_
  refine ops_run 1 (by kernel_rfl) ?_
  refine ops_done (by kernel_rfl) ?_
  refine hK7 _ _ ?_
  clear hK7
  refine W.ret (ret_seq ?_)
  refine ret_of (.int .u64 0) (by kernel_rfl) ⟨_, ⟨rfl, rfl⟩, hs6⟩


end Go.Proofs.YthimamnblklkbaaDoor
