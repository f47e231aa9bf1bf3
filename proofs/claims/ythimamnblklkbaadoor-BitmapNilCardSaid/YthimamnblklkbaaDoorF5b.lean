/- Contracts of the functions of view, by a program. -/
import Derived.Test.YthimamnblklkbaaDoorF5a
namespace Go.Proofs.YthimamnblklkbaaDoor
open Go Go.RowKit
set_option linter.unusedSimpArgs false
set_option linter.unusedVariables false

set_option maxRecDepth 20000 in
theorem clone_some {ad : Addr} {c : Nat} {xs : List Int} (B : Nat) (w : World) (hc : CellsAt (some ad) (kU64.cells xs) w) (hsz : xs.length ≤ 17592186044415) : Spec Tryd.prog 97 #[(.slice (some ad) xs.length c)] B w [] (fun v H' => ∃ a' c', v = .slice a' xs.length c' ∧ H' = [kU64.row a' c' xs]) := by
  refine spec_Q Tryd.func97 rfl fun hs => ?_
  refine W.seq fun K1 hK1 => ?_
  refine W.region ?_
  refine ops_run 1 (by kernel_rfl) ?_
  refine ops_done (by kernel_rfl) ?_
  refine hK1 _ _ ?_
  clear hK1
  refine W.seq fun K2 hK2 => ?_
  refine W.seq fun K3 hK3 => ?_
  refine W.region ?_
  refine ops_run 2 (by kernel_rfl) ?_
  refine ops_done (by kernel_rfl) ?_
  refine hK3 _ _ ?_
  clear hK3
  refine W.cond_false false (by kernel_rfl) rfl ?_
  refine W.skip ?_
  refine hK2 _ _ ?_
  clear hK2
  refine W.seq fun K4 hK4 => ?_
  refine W.region ?_
  refine ops_new (fun b => .slice (some ⟨b, 0, none⟩) 0 0) (.cells [].toArray 38 (0, 0)) hs (by kernel_rfl) (fun b7 w5 hs6 => ?_)
  refine ops_run 1 (by kernel_rfl) ?_
  have hs8 : St B w [] w5 [kU64.row (some ⟨b7, 0, none⟩) 0 ([])] := St.kblk kU64 [] hs6 rfl rfl (by simp only [List.length_cons, List.length_nil]; decide)
  refine ops_appendK kU64 (bytes := 8) (a' := (some ad)) (c' := c) (l := []) (m := xs) hs8 (by kernel_rfl) (by simp) (hs8.oldCells hc) (by (unfold maxLen; try simp) <;> omega) (by (try simp) <;> omega) (fun a9 c10 w11 hs12 => ?_)
  have hs13 : St B w [] w11 [kU64.row a9 c10 xs] := hs12
  refine ops_run 1 (by kernel_rfl) ?_
  refine ops_done (by kernel_rfl) ?_
  refine hK4 _ _ ?_
  clear hK4
  refine W.ret ?_
  refine ret_of (.slice a9 xs.length c10) (by kernel_rfl) ⟨_, ?_, hs13⟩
  exact ⟨_, _, rfl, rfl⟩

set_option maxRecDepth 20000 in
theorem clone_nil  (B : Nat) (w : World) : Spec Tryd.prog 97 #[(.slice none 0 0)] B w [] (fun v H' => ∃ a' c', v = .slice a' 0 c' ∧ H' = [kU64.row a' c' []]) := by
  refine spec_Q Tryd.func97 rfl fun hs => ?_
  refine W.seq fun K1 hK1 => ?_
  refine W.region ?_
  refine ops_run 1 (by kernel_rfl) ?_
  refine ops_done (by kernel_rfl) ?_
  refine hK1 _ _ ?_
  clear hK1
  refine W.seq fun K2 hK2 => ?_
  refine W.seq fun K3 hK3 => ?_
  refine W.region ?_
  refine ops_run 2 (by kernel_rfl) ?_
  refine ops_done (by kernel_rfl) ?_
  refine hK3 _ _ ?_
  clear hK3
  refine W.cond_true true (by kernel_rfl) rfl ?_
  refine W.seq fun K4 hK4 => ?_
  refine W.region ?_
  refine ops_run 1 (by kernel_rfl) ?_
  refine ops_done (by kernel_rfl) ?_
  refine hK4 _ _ ?_
  clear hK4
  refine W.ret (ret_seq ?_)
  have hk := St.knil kU64 hs
  refine ret_of (.slice none 0 0) (by kernel_rfl) ⟨_, ⟨none, 0, rfl, rfl⟩, hk⟩

theorem clone_spec {a : Option Addr} {c : Nat} {xs : List Int} (B : Nat) (w : World) (hc : CellsAt a (kU64.cells xs) w) (hn : a = none → c = 0) (hsz : xs.length ≤ 17592186044415) :
    Spec Tryd.prog 97 #[.slice a xs.length c] B w [] (fun v H' => ∃ a' c', v = .slice a' xs.length c' ∧ H' = [kU64.row a' c' xs]) := by
  cases a with
  | some ad => exact clone_some B w hc hsz
  | none =>
    have h1 := cells_none kU64 hc
    have h2 := hn rfl
    subst h1 h2
    exact clone_nil B w

set_option maxRecDepth 20000 in
theorem new_spec {a : Option Addr} {c : Nat} {xs : List Int} (B : Nat) (w : World) (hc : CellsAt a (kU64.cells xs) w) (hn : a = none → c = 0) (hsz : xs.length ≤ 17592186044415) : Spec Tryd.prog 27 #[(.slice a xs.length c)] B w [] (fun v H' => ∃ b, v = ptr b ∧ H' = [viewA (ptr b) xs []]) := by
  refine spec_Q Tryd.func27 rfl fun hs => ?_
  refine W.seq fun K1 hK1 => ?_
  refine W.region ?_
  refine ops_run 1 (by kernel_rfl) ?_
  refine ops_done (by kernel_rfl) ?_
  refine hK1 _ _ ?_
  clear hK1
  refine W.seq fun K2 hK2 => ?_
  refine W.region ?_
  refine ops_run 1 (by kernel_rfl) ?_
  refine ops_call (pre := []) hs (by kernel_rfl) (clone_spec (hc := (hs.oldCells hc)) (hn := hn) (hsz := hsz) B _) ?_
  rintro _ _ w5 ⟨a3, c4, rfl, rfl⟩ hs6
  have hs7 : St B w [] w5 [kU64.row a3 c4 xs] := hs6
  refine ops_makeMap hs7 (by kernel_rfl) (fun b10 w8 hs9 => ?_)
  refine ops_run 1 (by kernel_rfl) ?_
  refine ops_new (fun b => .pointer (some ⟨b, 0, none⟩)) (.cells [(.slice a3 xs.length c4), (.map (some b10)), (.slice none 0 0)].toArray 163 (0, 0)) hs9 (by kernel_rfl) (fun b13 w11 hs12 => ?_)
  refine ops_run 1 (by kernel_rfl) ?_
  refine ops_done (by kernel_rfl) ?_
  refine hK2 _ _ ?_
  clear hK2
  refine W.ret ?_
  have hs14 : St B w [] w11 [mapA b10 ([]), blk b13 (.cells [(.slice a3 xs.length c4), (.map (some b10)), (.slice none 0 0)].toArray 163 (0, 0)), kU64.row a3 c4 xs] := hs12.front 1 (by simp)
  have hs15 : St B w [] w11 [kU64.row a3 c4 xs, mapA b10 ([]), blk b13 (.cells [(.slice a3 xs.length c4), (.map (some b10)), (.slice none 0 0)].toArray 163 (0, 0))] := hs14.front 2 (by simp)
  have hs16 : St B w [] w11 [blk b13 (.cells [(.slice a3 xs.length c4), (.map (some b10)), (.slice none 0 0)].toArray 163 (0, 0)), kU64.row a3 c4 xs, mapA b10 ([])] := hs15.front 2 (by simp)
  have hk := St.knil kInt hs16
  have hk2 := hk.perm (H' := [blk b13 (.cells [(.slice a3 xs.length c4), (.map (some b10)), (.slice none 0 0)].toArray 163 (0, 0)), kU64.row a3 c4 xs, mapA b10 ([]), kInt.row none 0 []]) (perm_last _ _)
  refine ret_of (.pointer (some ⟨b13, 0, none⟩)) (by kernel_rfl) ⟨_, ⟨b13, rfl, rfl⟩, ?_⟩
  exact view_close (l := []) (ia := a3) (ic := c4) (mb := b10) (oa := none) (oc := 0) (VOk.nil hsz) hk2

set_option maxRecDepth 20000 in
theorem writes_spec {p : Value} {img : List Int} {l : List (Int × Int)} (B : Nat) (w : World) (hv : ViewAt p img l w) : Spec Tryd.prog 51 #[p] B w [] (fun v H' => ∃ a' c', v = .slice a' l.length c' ∧ H' = [kWr.row a' c' l]) := by
  refine spec_Q Tryd.func51 rfl fun hs => ?_
  have hv0 := hv
  obtain ⟨x, rfl, hok, hb, hi, hm, ho, hcap⟩ := hv
  have hlm : (l.map (·.1)).length = l.length := List.length_map _
  have hroom := hok.many
  refine W.seq fun K1 hK1 => ?_
  refine W.region ?_
  refine ops_run 1 (by kernel_rfl) ?_
  refine ops_done (by kernel_rfl) ?_
  refine hK1 _ _ ?_
  clear hK1
  refine W.seq fun K2 hK2 => ?_
  refine W.seq fun K3 hK3 => ?_
  refine W.region ?_
  refine ops_run 2 (by kernel_rfl) ?_
  refine ops_done (by kernel_rfl) ?_
  refine hK3 _ _ ?_
  clear hK3
  refine W.cond_false false (by kernel_rfl) rfl ?_
  refine W.skip ?_
  refine hK2 _ _ ?_
  clear hK2
  refine W.seq fun K4 hK4 => ?_
  refine W.seq fun K5 hK5 => ?_
  refine W.region ?_
  refine ops_run 3 (by kernel_rfl) ?_
  refine ops_R (runs_load (ad := ⟨x.b, 2, none⟩) (v := (.slice x.oa ((l.map (·.1)).length) x.oc)) (by kernel_rfl) (cell_of_blk (hs.old hb) rfl)) ?_
  refine ops_run 2 (by kernel_rfl) ?_
  refine ops_done (by kernel_rfl) ?_
  refine hK5 _ _ ?_
  clear hK5
  refine W.block ?_
  have hz0 := St.knil kWr hs
  refine W.loop (G := Nat × Option Addr × Nat) (fun | (k, a, c), s_, w_ => (∃ us, s_ = slots 29 [(0, (.pointer (some ⟨x.b, 0, none⟩))), (2, (.slice a ((l.take k).length) c)), (10, (.slice x.oa ((l.map (·.1)).length) x.oc)), (11, (.int .i64 (((l.map (·.1)).length) : Int))), (12, (.int .i64 (k : Int)))] us) ∧ St B w [] w_ [kWr.row a c (l.take k)] ∧ (k ≤ l.length)) (fun | (k, a, c) => l.length - k) (0, none, 0) ⟨slots_intro _ (by kernel_rfl), hz0, Nat.zero_le _⟩ ?_
  rintro ⟨k, a, c⟩ _ w6 ⟨⟨us, rfl⟩, hs7, hk_⟩
  refine W.seq fun K8 hK8 => ?_
  refine W.region ?_
  refine ops_run 1 (by kernel_rfl) ?_
  refine ops_done (by kernel_rfl) ?_
  refine hK8 _ _ ?_
  clear hK8
  refine W.seq fun K9 hK9 => ?_
  refine W.cond (decide ((k : Int) < (((l.map (·.1)).length) : Int))) (by kernel_rfl) (fun h10 => ?_) (fun h10 => ?_)
  ·
    have h10p : (k : Int) < (((l.map (·.1)).length) : Int) := of_decide_eq_true h10
    refine W.skip ?_
    refine hK9 _ _ ?_
    clear hK9
    refine W.seq fun K11 hK11 => ?_
    refine W.block ?_
    refine W.seq fun K12 hK12 => ?_
    refine W.region ?_
    have hk13 : k < (l.map (·.1)).length := by omega
    refine ops_R (runs_index (a := x.oa) (n := (l.map (·.1)).length) (z := (k : Int)) (size := 1) k rfl hk13 (kInt.addr (hs7.oldCells ho) hk13) (by kernel_rfl)) ?_
    refine ops_R (runs_load (ad := ((adr x.oa (k * 1)).add 0)) (v := (.int .i64 ((l.map (·.1)).getD k 0))) (by kernel_rfl) (kInt.at (hs7.oldCells ho) hk13 0 0 rfl)) ?_
    refine ops_run 1 (by kernel_rfl) ?_
    refine ops_done (by kernel_rfl) ?_
    refine hK12 _ _ ?_
    clear hK12
    refine W.region ?_
    refine ops_run 5 (by kernel_rfl) ?_
    refine ops_R (runs_load (ad := ⟨x.b, 1, none⟩) (v := (.map (some x.mb))) (by kernel_rfl) (cell_of_blk (hs7.old hb) rfl)) ?_
    refine ops_run 1 (by kernel_rfl) ?_
    refine ops_R (v := (.int .u64 ((vlook l ((l.map (·.1)).getD k 0)).getD 0))) (runs_lookup (k := ((l.map (·.1)).getD k 0)) (ok := false) (hs7.oldMap hm) (by kernel_rfl)) ?_
    refine ops_run 1 (by kernel_rfl) ?_
    refine ops_new (fun b => .slice (some ⟨b, 0, none⟩) 1 1) (.cells [(.int .i64 ((l.map (·.1)).getD k 0)), (.int .u64 ((vlook l ((l.map (·.1)).getD k 0)).getD 0))].toArray 177 (0, 0)) hs7 (by kernel_rfl) (fun b16 w14 hs15 => ?_)
    have hs17 : St B w [] w14 [kWr.row a c (l.take k), blk b16 (.cells [(.int .i64 ((l.map (·.1)).getD k 0)), (.int .u64 ((vlook l ((l.map (·.1)).getD k 0)).getD 0))].toArray 177 (0, 0))] := hs15.front 1 (by simp)
    refine ops_appendK kWr (bytes := 16) (a' := (some ⟨b16, 0, none⟩)) (c' := 1) (l := (l.take k)) (m := [(((l.map (·.1)).getD k 0), ((vlook l ((l.map (·.1)).getD k 0)).getD 0))]) hs17 (by kernel_rfl) (by simp) (cells_blk (hs17.heapAt 1 rfl)) (by (unfold maxLen; try simp) <;> omega) (by (try simp) <;> omega) (fun a18 c19 w20 hs21 => ?_)
    refine ops_run 1 (by kernel_rfl) ?_
    refine ops_done (by kernel_rfl) ?_
    refine normal_block ?_
    refine hK11 _ _ ?_
    clear hK11
    refine W.region ?_
    refine ops_val (v := .int .i64 (IntKind.i64.wrap ((k : Int) + 1))) (v' := .int .i64 ((k + 1 : Nat) : Int)) (by kernel_rfl) (congrArg (Value.int .i64) (wrap_i64 (by omega) (by omega))) ?_
    refine ops_run 1 (by kernel_rfl) ?_
    refine ops_done (by kernel_rfl) ?_
    have e_ := writes_step hok.keys (k := k) (by omega)
    have hs22 : St B w [] w20 [kWr.row a18 c19 ((l.take k) ++ [(((l.map (·.1)).getD k 0), ((vlook l ((l.map (·.1)).getD k 0)).getD 0))])] := St.take (H := [kWr.row a18 c19 ((l.take k) ++ [(((l.map (·.1)).getD k 0), ((vlook l ((l.map (·.1)).getD k 0)).getD 0))])]) hs21
    rw [e_] at hs22
    exact ⟨(k + 1, a18, c19), ⟨slots_intro _ (by rw [← e_]; kernel_rfl), hs22, by omega⟩, by first | omega | (dsimp only; omega)⟩
  ·
    have h10p : ¬ ((k : Int) < (((l.map (·.1)).length) : Int)) := of_decide_eq_false h10
    refine W.exit (exit_seq (exit_seq (exit_here ?_)))
    refine hK4 _ _ ?_
    clear hK4
    refine W.seq fun K23 hK23 => ?_
    refine W.region ?_
    refine ops_run 2 (by kernel_rfl) ?_
    refine ops_done (by kernel_rfl) ?_
    refine hK23 _ _ ?_
    clear hK23
    refine W.ret ?_
    have e_ : l.take k = l := List.take_of_length_le (by omega)
    have hs_ := hs7
    rw [e_] at hs_
    refine ret_of (.slice a ((l.take k).length) c) (by kernel_rfl) ⟨_, ⟨a, c, by rw [e_], rfl⟩, hs_⟩

end Go.Proofs.YthimamnblklkbaaDoor
