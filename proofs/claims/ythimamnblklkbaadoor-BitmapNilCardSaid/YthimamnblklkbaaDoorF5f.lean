/- Contracts of the functions of the reference of view, by a program. -/
import Derived.Test.YthimamnblklkbaaDoorF5e
namespace Go.Proofs.YthimamnblklkbaaDoor
open Go Go.RowKit
set_option linter.unusedSimpArgs false
set_option linter.unusedVariables false

set_option maxRecDepth 20000 in
theorem rnew_spec {a : Option Addr} {c : Nat} {xs : List Int} (B : Nat) (w : World) (hc : CellsAt a (kU64.cells xs) w) (hn : a = none → c = 0) (hsz : xs.length ≤ 17592186044415) : Spec Tryd.prog 40 #[(.slice a xs.length c)] B w [] (fun v H' => ∃ b, v = ptr b ∧ H' = [refA (ptr b) xs []]) := by
  refine spec_Q Tryd.func40 rfl fun hs => ?_
  refine W.seq fun K1 hK1 => ?_
  refine W.region ?_
  refine ops_run 1 (by kernel_rfl) ?_
  refine ops_done (by kernel_rfl) ?_
  refine hK1 _ _ ?_
  clear hK1
  refine W.seq fun K2 hK2 => ?_
  refine W.region ?_
  refine ops_new (fun b => .slice (some ⟨b, 0, none⟩) 0 0) (.cells [].toArray 38 (0, 0)) hs (by kernel_rfl) (fun b5 w3 hs4 => ?_)
  refine ops_run 1 (by kernel_rfl) ?_
  have hs6 : St B w [] w3 [kU64.row (some ⟨b5, 0, none⟩) 0 ([])] := St.kblk kU64 [] hs4 rfl rfl (by simp only [List.length_cons, List.length_nil]; decide)
  refine ops_appendK kU64 (bytes := 8) (a' := a) (c' := c) (l := []) (m := xs) hs6 (by kernel_rfl) hn (hs6.oldCells hc) (by (unfold maxLen; try simp) <;> omega) (by (try simp) <;> omega) (fun a7 c8 w9 hs10 => ?_)
  have hs11 : St B w [] w9 [kU64.row a7 c8 xs] := hs10
  refine ops_run 1 (by kernel_rfl) ?_
  refine ops_new (fun b => .pointer (some ⟨b, 0, none⟩)) (.cells [(.slice a7 xs.length c8), (.slice none 0 0), (.bool false)].toArray 71 (0, 0)) hs11 (by kernel_rfl) (fun b14 w12 hs13 => ?_)
  refine ops_run 1 (by kernel_rfl) ?_
  refine ops_done (by kernel_rfl) ?_
  refine hK2 _ _ ?_
  clear hK2
  refine W.ret ?_
  have hk := St.knil kWr hs13
  have hk2 := hk.perm (H' := [blk b14 (.cells [(.slice a7 xs.length c8), (.slice none 0 0), (.bool false)].toArray 71 (0, 0)), kU64.row a7 c8 xs, kWr.row none 0 []]) (perm_last _ _)
  refine ret_of (.pointer (some ⟨b14, 0, none⟩)) (by kernel_rfl) ⟨_, ⟨b14, rfl, rfl⟩, ?_⟩
  exact ref_close (l := []) (ia := a7) (ic := c8) (la := none) (lc := 0) (many := false) (VOk.nil hsz) hk2

set_option maxRecDepth 20000 in
theorem rput_spec {p : Value} {img : List Int} {l : List (Int × Int)} {at_ x_ : Int} (B : Nat) (w : World) : Spec Tryd.prog 114 #[p, (.int .i64 at_), (.int .u64 x_)] B w [refA p img l] (fun v H' => v = .int .i64 (vput img l at_ x_).1 ∧ H' = [refA p img (vput img l at_ x_).2]) := by
  refine spec_W Tryd.func114 rfl fun l0 hs => ?_
  obtain ⟨x, ⟨rfl, hok⟩, hs0⟩ := St.open hs
  have hs1 : St B w l0 w [blk x.b (.cells [(.slice x.ia img.length x.ic), (.slice x.la l.length x.lc), (.bool x.many)].toArray 71 (0, 0)), kU64.row x.ia x.ic img, kWr.row x.la x.lc l] := hs0
  have hroom := hok.many
  have hroom2 := hok.size
  refine W.seq fun K1 hK1 => ?_
  refine W.region ?_
  refine ops_run 1 (by kernel_rfl) ?_
  refine ops_done (by kernel_rfl) ?_
  refine hK1 _ _ ?_
  clear hK1
  refine W.seq fun K2 hK2 => ?_
  refine W.seq fun K3 hK3 => ?_
  refine W.region ?_
  refine ops_run 3 (by kernel_rfl) ?_
  rcases Bool.eq_false_or_eq_true (decide (at_ < 0)) with h4 | h4
  ·
    have h4p : at_ < 0 := of_decide_eq_true h4
    refine ops_set 10 (v := .bool true) (eq_bool_of (by kernel_rfl) h4) ?_
    refine ops_set 9 (v := .bool true) (eq_bool_of (by kernel_rfl) h4) ?_
    refine ops_run 8 (by kernel_rfl) ?_
    refine ops_done (by kernel_rfl) ?_
    refine hK3 _ _ ?_
    clear hK3
    refine W.cond_true true (by kernel_rfl) rfl ?_
    refine W.seq fun K5 hK5 => ?_
    refine W.region ?_
    refine ops_run 1 (by kernel_rfl) ?_
    refine ops_done (by kernel_rfl) ?_
    refine hK5 _ _ ?_
    clear hK5
    refine W.ret (ret_seq ?_)
    have hs_ := hs1
    have e_ : vput img l at_ x_ = (8, l) := by simp only [vput]; rw [if_neg (by omega)]
    refine ret_of (.int .i64 8) (by kernel_rfl) ⟨_, ⟨by rw [e_], rfl⟩, by rw [e_]; exact ref_close (l := l) (ia := x.ia) (ic := x.ic) (la := x.la) (lc := x.lc) (many := x.many) hok hs_⟩
  ·
    have h4p : ¬ (at_ < 0) := of_decide_eq_false h4
    refine ops_set 10 (v := .bool false) (eq_bool_of (by kernel_rfl) h4) ?_
    refine ops_set 9 (v := .bool false) (eq_bool_of (by kernel_rfl) h4) ?_
    refine ops_run 4 (by kernel_rfl) ?_
    refine ops_R (runs_load (ad := ⟨x.b, 0, none⟩) (v := (.slice x.ia img.length x.ic)) (by kernel_rfl) (hs1.cellAt 0 rfl rfl)) ?_
    refine ops_run 3 (by kernel_rfl) ?_
    refine ops_done (by kernel_rfl) ?_
    refine hK3 _ _ ?_
    clear hK3
    refine W.cond (decide (at_ ≥ (img.length : Int))) (by kernel_rfl) (fun h6 => ?_) (fun h6 => ?_)
    ·
      have h6p : at_ ≥ (img.length : Int) := of_decide_eq_true h6
      refine W.seq fun K7 hK7 => ?_
      refine W.region ?_
      refine ops_run 1 (by kernel_rfl) ?_
      refine ops_done (by kernel_rfl) ?_
      refine hK7 _ _ ?_
      clear hK7
      refine W.ret (ret_seq ?_)
      have hs_ := hs1
      have e_ : vput img l at_ x_ = (8, l) := by simp only [vput]; rw [if_neg (by omega)]
      refine ret_of (.int .i64 8) (by kernel_rfl) ⟨_, ⟨by rw [e_], rfl⟩, by rw [e_]; exact ref_close (l := l) (ia := x.ia) (ic := x.ic) (la := x.la) (lc := x.lc) (many := x.many) hok hs_⟩
    ·
      have h6p : ¬ (at_ ≥ (img.length : Int)) := of_decide_eq_false h6
      refine W.skip ?_
      refine hK2 _ _ ?_
      clear hK2
      refine W.seq fun K8 hK8 => ?_
      refine W.region ?_
      refine ops_run 2 (by kernel_rfl) ?_
      refine ops_call (pre := []) hs1 (by kernel_rfl) (find_spec (p := (.pointer (some ⟨x.b, 0, none⟩))) (img := img) (l := l) (at_ := at_) (hv := ⟨x, rfl, hok, hs1.heapAt 0 rfl, St.kcells kU64 hs1 1 rfl, St.kcells kWr hs1 2 rfl, St.capnil kU64 hs1 1 rfl⟩) B _) ?_
      rintro _ _ w11 ⟨r9, hr10, rfl, rfl⟩ hs12
      have hs13 : St B w l0 w11 [blk x.b (.cells [(.slice x.ia img.length x.ic), (.slice x.la l.length x.lc), (.bool x.many)].toArray 71 (0, 0)), kU64.row x.ia x.ic img, kWr.row x.la x.lc l] := hs12
      refine ops_run 1 (by kernel_rfl) ?_
      refine ops_done (by kernel_rfl) ?_
      refine hK8 _ _ ?_
      clear hK8
      refine W.seq fun K14 hK14 => ?_
      refine W.seq fun K15 hK15 => ?_
      refine W.region ?_
      refine ops_run 2 (by kernel_rfl) ?_
      refine ops_done (by kernel_rfl) ?_
      refine hK15 _ _ ?_
      clear hK15
      refine W.cond (decide (r9 ≥ 0)) (by kernel_rfl) (fun h16 => ?_) (fun h16 => ?_)
      ·
        have h16p : r9 ≥ 0 := of_decide_eq_true h16
        have hlt := FindR.lt hr10 (by omega)
        refine W.seq fun K17 hK17 => ?_
        refine W.region ?_
        refine ops_run 3 (by kernel_rfl) ?_
        refine ops_R (runs_load (ad := ⟨x.b, 1, none⟩) (v := (.slice x.la l.length x.lc)) (by kernel_rfl) (hs13.cellAt 0 rfl rfl)) ?_
        refine ops_run 2 (by kernel_rfl) ?_
        have hk18 : r9.toNat < l.length := by omega
        refine ops_R (runs_index (a := x.la) (n := l.length) (z := r9) (size := 2) r9.toNat (by omega) hk18 (kWr.addr (St.kcells kWr hs13 2 rfl) hk18) (by kernel_rfl)) ?_
        refine ops_run 1 (by kernel_rfl) ?_
        have hs21 : St B w l0 w11 [kWr.row x.la x.lc l, blk x.b (.cells [(.slice x.ia img.length x.ic), (.slice x.la l.length x.lc), (.bool x.many)].toArray 71 (0, 0)), kU64.row x.ia x.ic img] := hs13.front 2 (by simp)
        refine ops_storeK kWr (j := 1) (vs := [(.int .u64 x_)]) (0, 0) ((l.getD r9.toNat (0, 0)).1, x_) hs21 hk18 (Nat.le_of_ble_eq_true rfl) (by simp) rfl rfl (by kernel_rfl) (fun w19 hs20 => ?_)
        refine ops_done (by kernel_rfl) ?_
        refine hK17 _ _ ?_
        clear hK17
        refine W.seq fun K23 hK23 => ?_
        refine W.region ?_
        refine ops_run 1 (by kernel_rfl) ?_
        refine ops_done (by kernel_rfl) ?_
        refine hK23 _ _ ?_
        clear hK23
        refine W.ret (ret_seq ?_)
        have hs24 : St B w l0 w19 [kU64.row x.ia x.ic img, kWr.row x.la x.lc (l.set r9.toNat ((l.getD r9.toNat (0, 0)).1, x_)), blk x.b (.cells [(.slice x.ia img.length x.ic), (.slice x.la l.length x.lc), (.bool x.many)].toArray 71 (0, 0))] := hs20.front 2 (by simp)
        have hs25 : St B w l0 w19 [blk x.b (.cells [(.slice x.ia img.length x.ic), (.slice x.la l.length x.lc), (.bool x.many)].toArray 71 (0, 0)), kU64.row x.ia x.ic img, kWr.row x.la x.lc (l.set r9.toNat ((l.getD r9.toNat (0, 0)).1, x_))] := hs24.front 2 (by simp)
        have hs_ := hs25
        have e_ : vput img l at_ x_ = (0, vset l at_ x_) := rput_some hok.keys hr10 (by omega) (by omega)
        rw [← vset_length_some (v := x_) (FindR.isSome hok.keys hr10 (by omega))] at hs_
        have el_ := rput_set (x := x_) hok.keys hr10 (by omega)
        rw [el_] at hs_
        refine ret_of (.int .i64 0) (by kernel_rfl) ⟨_, ⟨by rw [e_], rfl⟩, by rw [e_]; exact ref_close (l := (vset l at_ x_)) (ia := x.ia) (ic := x.ic) (la := x.la) (lc := x.lc) (many := x.many) (hok.put (by omega) (.inl (FindR.isSome hok.keys hr10 (by omega)))) hs_⟩
      ·
        have h16p : ¬ (r9 ≥ 0) := of_decide_eq_false h16
        refine W.skip ?_
        refine hK14 _ _ ?_
        clear hK14
        refine W.seq fun K26 hK26 => ?_
        refine W.seq fun K27 hK27 => ?_
        refine W.region ?_
        refine ops_run 3 (by kernel_rfl) ?_
        refine ops_R (runs_load (ad := ⟨x.b, 1, none⟩) (v := (.slice x.la l.length x.lc)) (by kernel_rfl) (hs13.cellAt 0 rfl rfl)) ?_
        refine ops_run 2 (by kernel_rfl) ?_
        refine ops_done (by kernel_rfl) ?_
        refine hK27 _ _ ?_
        clear hK27
        refine W.cond (decide ((l.length : Int) ≥ 96)) (by kernel_rfl) (fun h28 => ?_) (fun h28 => ?_)
        ·
          have h28p : (l.length : Int) ≥ 96 := of_decide_eq_true h28
          refine W.seq fun K29 hK29 => ?_
          refine W.region ?_
          refine ops_run 3 (by kernel_rfl) ?_
          refine ops_store (off := 2) (cs := [(.slice x.ia img.length x.ic), (.slice x.la l.length x.lc), (.bool x.many)]) (vs := [(.bool true)]) hs13 (by kernel_rfl) (by simp) rfl (fun w30 hs31 => ?_)
          have hs32 : St B w l0 w30 [blk x.b (.cells [(.slice x.ia img.length x.ic), (.slice x.la l.length x.lc), (.bool true)].toArray 71 (0, 0)), kU64.row x.ia x.ic img, kWr.row x.la x.lc l] := hs31
          refine ops_done (by kernel_rfl) ?_
          refine hK29 _ _ ?_
          clear hK29
          refine W.seq fun K33 hK33 => ?_
          refine W.region ?_
          refine ops_run 1 (by kernel_rfl) ?_
          refine ops_done (by kernel_rfl) ?_
          refine hK33 _ _ ?_
          clear hK33
          refine W.ret (ret_seq ?_)
          have hs_ := hs32
          have e_ : vput img l at_ x_ = (5, l) := rput_many hr10 (by omega) (by omega) (by omega)
          refine ret_of (.int .i64 5) (by kernel_rfl) ⟨_, ⟨by rw [e_], rfl⟩, by rw [e_]; exact ref_close (l := l) (ia := x.ia) (ic := x.ic) (la := x.la) (lc := x.lc) (many := true) hok hs_⟩
        ·
          have h28p : ¬ ((l.length : Int) ≥ 96) := of_decide_eq_false h28
          refine W.skip ?_
          refine hK26 _ _ ?_
          clear hK26
          refine W.seq fun K34 hK34 => ?_
          refine W.region ?_
          refine ops_run 4 (by kernel_rfl) ?_
          refine ops_R (runs_load (ad := ⟨x.b, 1, none⟩) (v := (.slice x.la l.length x.lc)) (by kernel_rfl) (hs13.cellAt 0 rfl rfl)) ?_
          refine ops_run 3 (by kernel_rfl) ?_
          refine ops_new (fun b => .slice (some ⟨b, 0, none⟩) 1 1) (.cells [(.int .i64 at_), (.int .u64 x_)].toArray 177 (0, 0)) hs13 (by kernel_rfl) (fun b37 w35 hs36 => ?_)
          have hs38 : St B w l0 w35 [kWr.row x.la x.lc l, blk b37 (.cells [(.int .i64 at_), (.int .u64 x_)].toArray 177 (0, 0)), blk x.b (.cells [(.slice x.ia img.length x.ic), (.slice x.la l.length x.lc), (.bool x.many)].toArray 71 (0, 0)), kU64.row x.ia x.ic img] := hs36.front 3 (by simp)
          refine ops_appendK kWr (bytes := 16) (a' := (some ⟨b37, 0, none⟩)) (c' := 1) (l := l) (m := [(at_, x_)]) hs38 (by kernel_rfl) (by simp) (cells_blk (hs38.heapAt 1 rfl)) (by (unfold maxLen; try simp) <;> omega) (by (try simp) <;> omega) (fun a39 c40 w41 hs42 => ?_)
          refine ops_run 2 (by kernel_rfl) ?_
          have hs45 : St B w l0 w41 [blk x.b (.cells [(.slice x.ia img.length x.ic), (.slice x.la l.length x.lc), (.bool x.many)].toArray 71 (0, 0)), kWr.row a39 c40 (l ++ [(at_, x_)]), blk b37 (.cells [(.int .i64 at_), (.int .u64 x_)].toArray 177 (0, 0)), kU64.row x.ia x.ic img] := hs42.front 2 (by simp)
          refine ops_store (off := 1) (cs := [(.slice x.ia img.length x.ic), (.slice x.la l.length x.lc), (.bool x.many)]) (vs := [(.slice a39 ((l ++ [(at_, x_)]).length) c40)]) hs45 (by kernel_rfl) (by simp) rfl (fun w43 hs44 => ?_)
          have hs46 : St B w l0 w43 [blk x.b (.cells [(.slice x.ia img.length x.ic), (.slice a39 ((l ++ [(at_, x_)]).length) c40), (.bool x.many)].toArray 71 (0, 0)), kWr.row a39 c40 (l ++ [(at_, x_)]), blk b37 (.cells [(.int .i64 at_), (.int .u64 x_)].toArray 177 (0, 0)), kU64.row x.ia x.ic img] := hs44
          refine ops_done (by kernel_rfl) ?_
          refine hK34 _ _ ?_
          clear hK34
          refine W.seq fun K47 hK47 => ?_
          refine W.region ?_
          refine ops_run 1 (by kernel_rfl) ?_
          refine ops_done (by kernel_rfl) ?_
          refine hK47 _ _ ?_
          clear hK47
          refine W.ret ?_
          have hs48 : St B w l0 w43 [kWr.row a39 c40 (l ++ [(at_, x_)]), blk x.b (.cells [(.slice x.ia img.length x.ic), (.slice a39 ((l ++ [(at_, x_)]).length) c40), (.bool x.many)].toArray 71 (0, 0)), blk b37 (.cells [(.int .i64 at_), (.int .u64 x_)].toArray 177 (0, 0)), kU64.row x.ia x.ic img] := hs46.front 1 (by simp)
          have hs49 : St B w l0 w43 [kU64.row x.ia x.ic img, kWr.row a39 c40 (l ++ [(at_, x_)]), blk x.b (.cells [(.slice x.ia img.length x.ic), (.slice a39 ((l ++ [(at_, x_)]).length) c40), (.bool x.many)].toArray 71 (0, 0)), blk b37 (.cells [(.int .i64 at_), (.int .u64 x_)].toArray 177 (0, 0))] := hs48.front 3 (by simp)
          have hs50 : St B w l0 w43 [blk x.b (.cells [(.slice x.ia img.length x.ic), (.slice a39 ((l ++ [(at_, x_)]).length) c40), (.bool x.many)].toArray 71 (0, 0)), kU64.row x.ia x.ic img, kWr.row a39 c40 (l ++ [(at_, x_)]), blk b37 (.cells [(.int .i64 at_), (.int .u64 x_)].toArray 177 (0, 0))] := hs49.front 2 (by simp)
          have hs51 : St B w l0 w43 [blk x.b (.cells [(.slice x.ia img.length x.ic), (.slice a39 ((l ++ [(at_, x_)]).length) c40), (.bool x.many)].toArray 71 (0, 0)), kU64.row x.ia x.ic img, kWr.row a39 c40 (l ++ [(at_, x_)])] := St.take (H := [blk x.b (.cells [(.slice x.ia img.length x.ic), (.slice a39 ((l ++ [(at_, x_)]).length) c40), (.bool x.many)].toArray 71 (0, 0)), kU64.row x.ia x.ic img, kWr.row a39 c40 (l ++ [(at_, x_)])]) hs50
          have hs_ := hs51
          have e_ : vput img l at_ x_ = (0, vset l at_ x_) := rput_new hr10 (by omega) (by omega) (by omega)
          have el_ := rput_app (x := x_) hr10 (by omega)
          rw [el_] at hs_
          refine ret_of (.int .i64 0) (by kernel_rfl) ⟨_, ⟨by rw [e_], rfl⟩, by rw [e_]; exact ref_close (l := (vset l at_ x_)) (ia := x.ia) (ic := x.ic) (la := a39) (lc := c40) (many := x.many) (hok.put (by omega) (.inr (by omega))) hs_⟩

set_option maxRecDepth 20000 in
theorem rflat_spec {p : Value} {img : List Int} {l : List (Int × Int)} (B : Nat) (w : World) (hv : RefAt p img l w) : Spec Tryd.prog 88 #[p] B w [] (fun v H' => ∃ a' c', v = .slice a' (vflat img l).length c' ∧ H' = [kU64.row a' c' (vflat img l)]) := by
  refine spec_Q Tryd.func88 rfl fun hs => ?_
  have hv0 := hv
  obtain ⟨x, rfl, hok, hb, hi, ho, hcap⟩ := hv
  have hroom := hok.many
  have hroom2 := hok.size
  refine W.seq fun K1 hK1 => ?_
  refine W.region ?_
  refine ops_run 1 (by kernel_rfl) ?_
  refine ops_done (by kernel_rfl) ?_
  refine hK1 _ _ ?_
  clear hK1
  refine W.seq fun K2 hK2 => ?_
  refine W.region ?_
  refine ops_new (fun b => .slice (some ⟨b, 0, none⟩) 0 0) (.cells [].toArray 38 (0, 0)) hs (by kernel_rfl) (fun b5 w3 hs4 => ?_)
  refine ops_run 3 (by kernel_rfl) ?_
  refine ops_R (runs_load (ad := ⟨x.b, 0, none⟩) (v := (.slice x.ia img.length x.ic)) (by kernel_rfl) (cell_of_blk (hs4.old hb) rfl)) ?_
  have hs6 : St B w [] w3 [kU64.row (some ⟨b5, 0, none⟩) 0 ([])] := St.kblk kU64 [] hs4 rfl rfl (by simp only [List.length_cons, List.length_nil]; decide)
  refine ops_appendK kU64 (bytes := 8) (a' := x.ia) (c' := x.ic) (l := []) (m := img) hs6 (by kernel_rfl) hcap (hs6.oldCells hi) (by (unfold maxLen; try simp) <;> omega) (by (try simp) <;> omega) (fun a7 c8 w9 hs10 => ?_)
  have hs11 : St B w [] w9 [kU64.row a7 c8 img] := hs10
  refine ops_run 1 (by kernel_rfl) ?_
  refine ops_done (by kernel_rfl) ?_
  refine hK2 _ _ ?_
  clear hK2
  refine W.seq fun K12 hK12 => ?_
  refine W.seq fun K13 hK13 => ?_
  refine W.region ?_
  refine ops_run 1 (by kernel_rfl) ?_
  refine ops_done (by kernel_rfl) ?_
  refine hK13 _ _ ?_
  clear hK13
  refine W.block ?_
  refine W.loop (G := Nat) (fun | k, s_, w_ => (∃ us, s_ = slots 39 [(0, (.pointer (some ⟨x.b, 0, none⟩))), (3, (.slice a7 img.length c8)), (4, (.int .i64 (k : Int)))] us) ∧ St B w [] w_ [kU64.row a7 c8 (vflat img (l.take k))] ∧ (k ≤ l.length)) (fun k => l.length - k) 0 ⟨slots_intro _ (by kernel_rfl), hs11, Nat.zero_le _⟩ ?_
  rintro k _ w14 ⟨⟨us, rfl⟩, hs15, hk_⟩
  refine W.seq fun K16 hK16 => ?_
  refine W.seq fun K17 hK17 => ?_
  refine W.region ?_
  refine ops_run 4 (by kernel_rfl) ?_
  refine ops_R (runs_load (ad := ⟨x.b, 1, none⟩) (v := (.slice x.la l.length x.lc)) (by kernel_rfl) (cell_of_blk (hs15.old hb) rfl)) ?_
  refine ops_run 2 (by kernel_rfl) ?_
  refine ops_done (by kernel_rfl) ?_
  refine hK17 _ _ ?_
  clear hK17
  refine W.cond (decide ((k : Int) < (l.length : Int))) (by kernel_rfl) (fun h18 => ?_) (fun h18 => ?_)
  ·
    have h18p : (k : Int) < (l.length : Int) := of_decide_eq_true h18
    have hin := hok.inside (l.getD k (0, 0)) (by simp [show k < l.length by omega])
    refine W.skip ?_
    refine hK16 _ _ ?_
    clear hK16
    refine W.seq fun K19 hK19 => ?_
    refine W.block ?_
    have hs20 := hs15.drew
    have hs21 : St B w [] w14.drew [] := St.take (H := []) hs20
    refine W.regionD [(0, 0), (0, 0), (2, 2), (4, 4), (8, 8), (0, 0), (48, 48), (64, 64), (128, 128), (0, 0), (512, 512), (1024, 1024), (2048, 2048), (0, 0), (12288, 12288), (16384, 16384), (32768, 32768), (131071, 257), (262143, 196608)] (fun w_ => St B w [] w_ []) (by kernel_rfl) hs21 ?_
    refine any_val (v := (.slice a7 img.length c8)) (v' := (.slice a7 img.length c8)) 0 (by kernel_rfl) (fun _ => by kernel_rfl) rfl hs21 ?_
    refine any_val (v := (.pointer (some ⟨x.b, 0, none⟩))) (v' := (.pointer (some ⟨x.b, 0, none⟩))) 1 (by kernel_rfl) (fun _ => by kernel_rfl) rfl hs21 ?_
    refine any_val (v := (.pointer (some ⟨x.b, 0, none⟩))) (v' := (.pointer (some ⟨x.b, 0, none⟩))) 2 (by kernel_rfl) (fun _ => by kernel_rfl) rfl hs21 ?_
    refine any_val (v := (.pointer (some ⟨x.b, 1, none⟩))) (v' := (.pointer (some ⟨x.b, 1, none⟩))) 3 (by kernel_rfl) (fun _ => by kernel_rfl) rfl hs21 ?_
    refine any_R 4 (by kernel_rfl) (fun _ hS_ => runs_load (ad := ⟨x.b, 1, none⟩) (v := (.slice x.la l.length x.lc)) (by kernel_rfl) (cell_of_blk (hS_.old hb) rfl)) hs21 ?_
    refine any_val (v := (.int .i64 (k : Int))) (v' := (.int .i64 (k : Int))) 5 (by kernel_rfl) (fun _ => by kernel_rfl) rfl hs21 ?_
    have hk22 : k < l.length := by omega
    refine any_R 6 (by kernel_rfl) (fun _ hS_ => runs_index (a := x.la) (n := l.length) (z := (k : Int)) (size := 2) k rfl hk22 (kWr.addr (hs20.oldCells ho) hk22) (by kernel_rfl)) hs21 ?_
    refine any_val (v := (.pointer (some (adr x.la (k * 2))))) (v' := (.pointer (some (adr x.la (k * 2))))) 7 (by kernel_rfl) (fun _ => by kernel_rfl) rfl hs21 ?_
    refine any_R 8 (by kernel_rfl) (fun _ hS_ => runs_load (ad := ((adr x.la (k * 2)).add 0)) (v := (.int .i64 ((l.getD k (0, 0)).1))) (by kernel_rfl) (kWr.at (hS_.oldCells ho) hk22 (0, 0) 0 rfl)) hs21 ?_
    refine any_val (v := (.pointer (some ⟨x.b, 0, none⟩))) (v' := (.pointer (some ⟨x.b, 0, none⟩))) 9 (by kernel_rfl) (fun _ => by kernel_rfl) rfl hs21 ?_
    refine any_val (v := (.pointer (some ⟨x.b, 0, none⟩))) (v' := (.pointer (some ⟨x.b, 0, none⟩))) 10 (by kernel_rfl) (fun _ => by kernel_rfl) rfl hs21 ?_
    refine any_val (v := (.pointer (some ⟨x.b, 1, none⟩))) (v' := (.pointer (some ⟨x.b, 1, none⟩))) 11 (by kernel_rfl) (fun _ => by kernel_rfl) rfl hs21 ?_
    refine any_R 12 (by kernel_rfl) (fun _ hS_ => runs_load (ad := ⟨x.b, 1, none⟩) (v := (.slice x.la l.length x.lc)) (by kernel_rfl) (cell_of_blk (hS_.old hb) rfl)) hs21 ?_
    refine any_val (v := (.int .i64 (k : Int))) (v' := (.int .i64 (k : Int))) 13 (by kernel_rfl) (fun _ => by kernel_rfl) rfl hs21 ?_
    have hk23 : k < l.length := by omega
    refine any_R 14 (by kernel_rfl) (fun _ hS_ => runs_index (a := x.la) (n := l.length) (z := (k : Int)) (size := 2) k rfl hk23 (kWr.addr (hs20.oldCells ho) hk23) (by kernel_rfl)) hs21 ?_
    refine any_val (v := (.pointer (some ((adr x.la (k * 2)).add 1)))) (v' := (.pointer (some ((adr x.la (k * 2)).add 1)))) 15 (by kernel_rfl) (fun _ => by kernel_rfl) rfl hs21 ?_
    refine any_R 16 (by kernel_rfl) (fun _ hS_ => runs_load (ad := ((adr x.la (k * 2)).add 1)) (v := (.int .u64 ((l.getD k (0, 0)).2))) (by kernel_rfl) (kWr.at (hS_.oldCells ho) hk23 (0, 0) 1 rfl)) hs21 ?_
    have hk24 : ((l.getD k (0, 0)).1).toNat < img.length := by omega
    have hk25 : ((l.getD k (0, 0)).1).toNat < (vflat img (l.take k)).length := (by rw [vflat_length]; exact hk24)
    refine any_R 17 (by kernel_rfl) (fun _ hS_ => runs_index (a := a7) (n := img.length) (z := (l.getD k (0, 0)).1) (size := 1) (((l.getD k (0, 0)).1).toNat) (by omega) hk24 (kU64.addr (St.kcells kU64 hs20 0 rfl) hk25) (by kernel_rfl)) hs21 ?_
    refine any_step 18 (by kernel_rfl) (by kernel_rfl) ?_
    refine ops_storeK kU64 (j := 0) (vs := [(.int .u64 ((l.getD k (0, 0)).2))]) 0 ((l.getD k (0, 0)).2) hs20 hk25 (Nat.le_of_ble_eq_true rfl) (by simp) rfl rfl (by kernel_rfl) (fun w26 hs27 => ?_)
    have hs29 : St B w [] w26 [] := St.take (H := []) hs27
    refine ops_done (by kernel_rfl) ⟨hs29, ?_⟩
    refine any_done (by kernel_rfl) ?_
    refine normal_block ?_
    refine hK19 _ _ ?_
    clear hK19
    refine W.region ?_
    refine ops_run 1 (by kernel_rfl) ?_
    refine ops_val (v := .int .i64 (IntKind.i64.wrap ((k : Int) + 1))) (v' := .int .i64 ((k + 1 : Nat) : Int)) (by kernel_rfl) (congrArg (Value.int .i64) (wrap_i64 (by omega) (by omega))) ?_
    refine ops_run 1 (by kernel_rfl) ?_
    refine ops_done (by kernel_rfl) ?_
    have e_ := vflat_step img (l := l) (k := k) (by omega)
    rw [e_] at hs27
    exact ⟨k + 1, ⟨slots_intro _ (by kernel_rfl), hs27, by omega⟩, by first | omega | (dsimp only; omega)⟩
  ·
    have h18p : ¬ ((k : Int) < (l.length : Int)) := of_decide_eq_false h18
    refine W.exit (exit_seq (exit_seq (exit_here ?_)))
    refine hK12 _ _ ?_
    clear hK12
    refine W.seq fun K30 hK30 => ?_
    refine W.region ?_
    refine ops_run 2 (by kernel_rfl) ?_
    refine ops_done (by kernel_rfl) ?_
    refine hK30 _ _ ?_
    clear hK30
    refine W.ret ?_
    have e2_ : l.take k = l := List.take_of_length_le (by omega)
    have hs_ := hs15
    rw [e2_] at hs_
    refine ret_of (.slice a7 img.length c8) (by kernel_rfl) ⟨_, ⟨a7, c8, by rw [vflat_length], rfl⟩, hs_⟩


end Go.Proofs.YthimamnblklkbaaDoor
