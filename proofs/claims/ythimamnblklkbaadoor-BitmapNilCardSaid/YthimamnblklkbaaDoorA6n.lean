/- What the code computes, by a program. -/
import Derived.Test.YthimamnblklkbaaDoorA6c
import Derived.Test.YthimamnblklkbaaDoorA6d
namespace Go.Proofs.YthimamnblklkbaaDoor
open Go Go.RowKit
set_option linter.unusedSimpArgs false
set_option linter.unusedVariables false

def mcount0_D14  : Option (Int) :=
  some 0

def mcount0_M  : Option (Int) :=
  rounds (fun k_ c_ s_ => none) (fun s_ => mcount0_D14) 0 0 ()

set_option maxRecDepth 20000 in
set_option maxHeartbeats 2000000 in
set_option linter.unusedVariables false in
theorem mcount0_walk   {r : Int} (B : Nat) (w : World) (hm : mcount0_M = some r) : Spec Tryd.prog 25 #[(.pointer none)] B w [] (fun v H' => v = .int .i64 r ∧ H' = []) := by
  refine spec_K Tryd.func25 rfl fun B' hB' hs => ?_
  unfold mcount0_M at hm
  refine W.seq fun K1 hK1 => ?_
  refine W.region ?_
  refine ops_new (fun b => .pointer (some ⟨b, 0, none⟩)) (.cells [(.int .i64 0)].toArray 3 (0, 0)) hs (by kernel_rfl) (fun b4 w2 hs3 => ?_)
  refine ops_done (by kernel_rfl) ?_
  refine hK1 _ _ ?_
  clear hK1
  refine W.seq fun K5 hK5 => ?_
  refine W.seq fun K6 hK6 => ?_
  refine W.region ?_
  refine ops_run 1 (by kernel_rfl) ?_
  refine ops_call (pre := []) hs3 (by kernel_rfl) (words_spec (mp := none) B' _) ?_
  rintro _ _ w8 ⟨b7, rfl, rfl⟩ hs9
  have hs10 : St B' w [] w8 [blk b7 (.cells [(.pointer none)].toArray 22 (0, 0)), blk b4 (.cells [(.int .i64 0)].toArray 3 (0, 0)), keepA w] := hs9
  refine ops_done (by kernel_rfl) ?_
  refine hK6 _ _ ?_
  clear hK6
  refine W.block ?_
  refine W.norm (n := 14) (l := [(2, (.pointer (some ⟨b4, 0, none⟩))), (6, (.func (.func 140) #[] #[(.pointer (some ⟨b7, 0, none⟩))]))]) (by kernel_rfl) (fun us11 => ?_)
  have hs19 : St B' w [] w8 [keepA w, blk b7 (.cells [(.pointer none)].toArray 22 (0, 0)), blk b4 (.cells [(.int .i64 0)].toArray 3 (0, 0))] := hs10.front 2 (by simp)
  have hs20 := hs19.keep2
  have hs21 : St B' w [] w8 [keepA w, keepA w, blk b7 (.cells [(.pointer none)].toArray 22 (0, 0)), blk b4 (.cells [(.int .i64 0)].toArray 3 (0, 0))] := hs20.front 1 (by simp)
  have hs22 : St B' w [] w8 [blk b4 (.cells [(.int .i64 0)].toArray 3 (0, 0)), keepA w, keepA w, blk b7 (.cells [(.pointer none)].toArray 22 (0, 0))] := hs21.front 3 (by simp)
  have hs23 : St B' w [] w8 [keepA w, blk b4 (.cells [(.int .i64 0)].toArray 3 (0, 0)), keepA w, blk b7 (.cells [(.pointer none)].toArray 22 (0, 0))] := hs22.front 2 (by simp)
  have hs24 : St B' w [] w8 [blk b7 (.cells [(.pointer none)].toArray 22 (0, 0)), keepA w, blk b4 (.cells [(.int .i64 0)].toArray 3 (0, 0)), keepA w] := hs23.front 3 (by simp)
  have hF25 : rounds (fun k_ c_ s_ => none) (fun s_ => mcount0_D14) (0 - 0) 0 () = some r := by rw [Nat.sub_zero]; exact hm
  clear hm
  refine W.roundsA (G := Unit) (GZ := Unit) (gf := 140) (lb := #[(.pointer (some ⟨b7, 0, none⟩))]) 0 (fun k_ _ => rounds (fun k_ c_ s_ => none) (fun s_ => mcount0_D14) (0 - k_) k_ () = some r) (fun _ => [keepA w, blk b4 (.cells [(.int .i64 0)].toArray 3 (0, 0)), keepA w]) .ret (fun (_ : Unit) => False) (fun _ => []) [blk b7 (.cells [(.pointer none)].toArray 22 (0, 0))] (fun k_ => #[(.int .i64 0), (.int .u64 0)]) (fun k_ l_ => slotsD 14 ((8, (.int .u64 0)) :: (7, (.int .i64 0)) :: [(2, (.pointer (some ⟨b4, 0, none⟩))), (6, (.func (.func 140) #[] #[(.pointer (some ⟨b7, 0, none⟩))]))]) us11 (some l_) []) () hF25 hs24 rfl (by kernel_rfl) (fun _ _ => by kernel_rfl) (fun _ => rfl) (fun a_ k_ l_ h1_ h2_ => ⟨rel_round2 (by decide) (by decide) h1_ h2_, rfl⟩) (fun l_ => #[.func (.yield l_) #[] #[], (.pointer (some ⟨b7, 0, none⟩))]) (fun _ => rfl) (fun l_ w_ Y_ Z_ _ => words1_nil (yl := l_) (Y := Y_) (Z := Z_) _ w_) ?_ ?_ ?_
  rotate_left
  ·
    rintro D18 w26 _ hF28 hs27
    replace hF28 : rounds (fun k_ c_ s_ => none) (fun s_ => mcount0_D14) (0 - 0) 0 () = some r := hF28
    rw [rounds_end] at hF28
    have hm : mcount0_D14 = some r := hF28
    clear hF28
    unfold mcount0_D14 at hm
    have hs29 : St B' w [] w26 [blk D18 (.deferred (some [])), blk b7 (.cells [(.pointer none)].toArray 22 (0, 0)), keepA w, blk b4 (.cells [(.int .i64 0)].toArray 3 (0, 0)), keepA w] := hs27
    refine normal_block ?_
    refine hK5 _ _ ?_
    clear hK5
    refine W.seq fun K30 hK30 => ?_
    refine W.region ?_
    refine ops_R (runs_load (ad := ⟨b4, 0, none⟩) (v := (.int .i64 0)) (by kernel_rfl) (hs29.cellAt 3 rfl rfl)) ?_
    have hs33 : St B' w [] w26 [blk b4 (.cells [(.int .i64 0)].toArray 3 (0, 0)), blk D18 (.deferred (some [])), blk b7 (.cells [(.pointer none)].toArray 22 (0, 0)), keepA w, keepA w] := hs29.front 3 (by simp)
    refine ops_store (off := 0) (cs := [(.int .i64 0)]) (vs := [(.int .i64 0)]) hs33 (by kernel_rfl) (by simp) rfl (fun w31 hs32 => ?_)
    have hs34 : St B' w [] w31 [blk b4 (.cells [(.int .i64 0)].toArray 3 (0, 0)), blk D18 (.deferred (some [])), blk b7 (.cells [(.pointer none)].toArray 22 (0, 0)), keepA w, keepA w] := hs32
    refine ops_done (by kernel_rfl) ?_
    refine hK30 _ _ ?_
    clear hK30
    refine W.ret ?_
    obtain rfl := some_inj hm
    have hs35 : St B' w [] w31 [keepA w, blk b4 (.cells [(.int .i64 0)].toArray 3 (0, 0)), blk D18 (.deferred (some [])), blk b7 (.cells [(.pointer none)].toArray 22 (0, 0)), keepA w] := hs34.front 3 (by simp)
    have hs36 : St B' w [] w31 [blk b7 (.cells [(.pointer none)].toArray 22 (0, 0)), keepA w, blk b4 (.cells [(.int .i64 0)].toArray 3 (0, 0)), blk D18 (.deferred (some [])), keepA w] := hs35.front 3 (by simp)
    have hs37 : St B' w [] w31 [blk b4 (.cells [(.int .i64 0)].toArray 3 (0, 0)), blk b7 (.cells [(.pointer none)].toArray 22 (0, 0)), keepA w, blk D18 (.deferred (some [])), keepA w] := hs36.front 2 (by simp)
    have hs38 : St B' w [] w31 [blk D18 (.deferred (some [])), blk b4 (.cells [(.int .i64 0)].toArray 3 (0, 0)), blk b7 (.cells [(.pointer none)].toArray 22 (0, 0)), keepA w, keepA w] := hs37.front 3 (by simp)
    refine leave_mark (D := D18) (v := (.int .i64 0)) hs38 (by kernel_rfl) (fun w39 hs40 => (resD_one rfl (.cell (ad := ⟨b4, 0, none⟩) (by kernel_rfl) (by kernel_rfl) (hs40.cellAt 0 rfl rfl)))) (fun w39 hs40 => ?_)
    have hs41 : St B' w [] w39 [] := St.take (H := []) hs40
    exact ⟨rfl, hs41⟩
  ·
    rintro _ _ _ h_ _
    exact h_.elim
  ·
    intro k_ hk_
    exact absurd hk_ (Nat.not_lt_zero _)

def mclear0_D20  : Option (Int × Bool) :=
  some (0, false)

def mclear0_M  : Option (Int × Bool) :=
  rounds (fun k_ c_ s_ => none) (fun s_ => mclear0_D20) 0 0 ()

set_option maxRecDepth 20000 in
set_option maxHeartbeats 2000000 in
set_option linter.unusedVariables false in
theorem mclear0_walk   {r : Int × Bool} (B : Nat) (w : World) (hm : mclear0_M = some r) : Spec Tryd.prog 22 #[(.pointer none)] B w [] (fun v H' => v = .tuple #[.int .i64 r.1, .bool r.2] ∧ H' = []) := by
  refine spec_K Tryd.func22 rfl fun B' hB' hs => ?_
  unfold mclear0_M at hm
  refine W.seq fun K1 hK1 => ?_
  refine W.region ?_
  refine ops_new (fun b => .pointer (some ⟨b, 0, none⟩)) (.cells [(.pointer none)].toArray 22 (0, 0)) hs (by kernel_rfl) (fun b4 w2 hs3 => ?_)
  refine ops_new (fun b => .pointer (some ⟨b, 0, none⟩)) (.cells [(.int .i64 0)].toArray 3 (0, 0)) hs3 (by kernel_rfl) (fun b7 w5 hs6 => ?_)
  refine ops_new (fun b => .pointer (some ⟨b, 0, none⟩)) (.cells [(.bool false)].toArray 4 (0, 0)) hs6 (by kernel_rfl) (fun b10 w8 hs9 => ?_)
  refine ops_done (by kernel_rfl) ?_
  refine hK1 _ _ ?_
  clear hK1
  refine W.seq fun K11 hK11 => ?_
  refine W.seq fun K12 hK12 => ?_
  refine W.region ?_
  refine ops_R (runs_load (ad := ⟨b4, 0, none⟩) (v := (.pointer none)) (by kernel_rfl) (hs9.cellAt 2 rfl rfl)) ?_
  refine ops_call (pre := []) hs9 (by kernel_rfl) (words_spec (mp := none) B' _) ?_
  rintro _ _ w14 ⟨b13, rfl, rfl⟩ hs15
  have hs16 : St B' w [] w14 [blk b13 (.cells [(.pointer none)].toArray 22 (0, 0)), blk b10 (.cells [(.bool false)].toArray 4 (0, 0)), blk b7 (.cells [(.int .i64 0)].toArray 3 (0, 0)), blk b4 (.cells [(.pointer none)].toArray 22 (0, 0)), keepA w] := hs15
  refine ops_done (by kernel_rfl) ?_
  refine hK12 _ _ ?_
  clear hK12
  refine W.block ?_
  refine W.norm (n := 29) (l := [(1, (.pointer (some ⟨b4, 0, none⟩))), (2, (.pointer (some ⟨b7, 0, none⟩))), (3, (.pointer (some ⟨b10, 0, none⟩))), (8, (.func (.func 140) #[] #[(.pointer (some ⟨b13, 0, none⟩))]))]) (by kernel_rfl) (fun us17 => ?_)
  have hs25 : St B' w [] w14 [keepA w, blk b13 (.cells [(.pointer none)].toArray 22 (0, 0)), blk b10 (.cells [(.bool false)].toArray 4 (0, 0)), blk b7 (.cells [(.int .i64 0)].toArray 3 (0, 0)), blk b4 (.cells [(.pointer none)].toArray 22 (0, 0))] := hs16.front 4 (by simp)
  have hs26 := hs25.keep2
  have hs27 : St B' w [] w14 [keepA w, keepA w, blk b13 (.cells [(.pointer none)].toArray 22 (0, 0)), blk b10 (.cells [(.bool false)].toArray 4 (0, 0)), blk b7 (.cells [(.int .i64 0)].toArray 3 (0, 0)), blk b4 (.cells [(.pointer none)].toArray 22 (0, 0))] := hs26.front 1 (by simp)
  have hs28 : St B' w [] w14 [blk b4 (.cells [(.pointer none)].toArray 22 (0, 0)), keepA w, keepA w, blk b13 (.cells [(.pointer none)].toArray 22 (0, 0)), blk b10 (.cells [(.bool false)].toArray 4 (0, 0)), blk b7 (.cells [(.int .i64 0)].toArray 3 (0, 0))] := hs27.front 5 (by simp)
  have hs29 : St B' w [] w14 [blk b7 (.cells [(.int .i64 0)].toArray 3 (0, 0)), blk b4 (.cells [(.pointer none)].toArray 22 (0, 0)), keepA w, keepA w, blk b13 (.cells [(.pointer none)].toArray 22 (0, 0)), blk b10 (.cells [(.bool false)].toArray 4 (0, 0))] := hs28.front 5 (by simp)
  have hs30 : St B' w [] w14 [blk b10 (.cells [(.bool false)].toArray 4 (0, 0)), blk b7 (.cells [(.int .i64 0)].toArray 3 (0, 0)), blk b4 (.cells [(.pointer none)].toArray 22 (0, 0)), keepA w, keepA w, blk b13 (.cells [(.pointer none)].toArray 22 (0, 0))] := hs29.front 5 (by simp)
  have hs31 : St B' w [] w14 [keepA w, blk b10 (.cells [(.bool false)].toArray 4 (0, 0)), blk b7 (.cells [(.int .i64 0)].toArray 3 (0, 0)), blk b4 (.cells [(.pointer none)].toArray 22 (0, 0)), keepA w, blk b13 (.cells [(.pointer none)].toArray 22 (0, 0))] := hs30.front 4 (by simp)
  have hs32 : St B' w [] w14 [blk b13 (.cells [(.pointer none)].toArray 22 (0, 0)), keepA w, blk b10 (.cells [(.bool false)].toArray 4 (0, 0)), blk b7 (.cells [(.int .i64 0)].toArray 3 (0, 0)), blk b4 (.cells [(.pointer none)].toArray 22 (0, 0)), keepA w] := hs31.front 5 (by simp)
  have hF33 : rounds (fun k_ c_ s_ => none) (fun s_ => mclear0_D20) (0 - 0) 0 () = some r := by rw [Nat.sub_zero]; exact hm
  clear hm
  refine W.roundsA (G := Unit) (GZ := Unit) (gf := 140) (lb := #[(.pointer (some ⟨b13, 0, none⟩))]) 0 (fun k_ _ => rounds (fun k_ c_ s_ => none) (fun s_ => mclear0_D20) (0 - k_) k_ () = some r) (fun _ => [keepA w, blk b10 (.cells [(.bool false)].toArray 4 (0, 0)), blk b7 (.cells [(.int .i64 0)].toArray 3 (0, 0)), blk b4 (.cells [(.pointer none)].toArray 22 (0, 0)), keepA w]) .ret (fun (_ : Unit) => False) (fun _ => []) [blk b13 (.cells [(.pointer none)].toArray 22 (0, 0))] (fun k_ => #[(.int .i64 0), (.int .u64 0)]) (fun k_ l_ => slotsD 29 ((10, (.int .u64 0)) :: (9, (.int .i64 0)) :: [(1, (.pointer (some ⟨b4, 0, none⟩))), (2, (.pointer (some ⟨b7, 0, none⟩))), (3, (.pointer (some ⟨b10, 0, none⟩))), (8, (.func (.func 140) #[] #[(.pointer (some ⟨b13, 0, none⟩))]))]) us17 (some l_) []) () hF33 hs32 rfl (by kernel_rfl) (fun _ _ => by kernel_rfl) (fun _ => rfl) (fun a_ k_ l_ h1_ h2_ => ⟨rel_round2 (by decide) (by decide) h1_ h2_, rfl⟩) (fun l_ => #[.func (.yield l_) #[] #[], (.pointer (some ⟨b13, 0, none⟩))]) (fun _ => rfl) (fun l_ w_ Y_ Z_ _ => words1_nil (yl := l_) (Y := Y_) (Z := Z_) _ w_) ?_ ?_ ?_
  rotate_left
  ·
    rintro D24 w34 _ hF36 hs35
    replace hF36 : rounds (fun k_ c_ s_ => none) (fun s_ => mclear0_D20) (0 - 0) 0 () = some r := hF36
    rw [rounds_end] at hF36
    have hm : mclear0_D20 = some r := hF36
    clear hF36
    unfold mclear0_D20 at hm
    have hs37 : St B' w [] w34 [blk D24 (.deferred (some [])), blk b13 (.cells [(.pointer none)].toArray 22 (0, 0)), keepA w, blk b10 (.cells [(.bool false)].toArray 4 (0, 0)), blk b7 (.cells [(.int .i64 0)].toArray 3 (0, 0)), blk b4 (.cells [(.pointer none)].toArray 22 (0, 0)), keepA w] := hs35
    refine normal_block ?_
    refine hK11 _ _ ?_
    clear hK11
    refine W.seq fun K38 hK38 => ?_
    refine W.region ?_
    have hs41 : St B' w [] w34 [blk b7 (.cells [(.int .i64 0)].toArray 3 (0, 0)), blk D24 (.deferred (some [])), blk b13 (.cells [(.pointer none)].toArray 22 (0, 0)), keepA w, blk b10 (.cells [(.bool false)].toArray 4 (0, 0)), blk b4 (.cells [(.pointer none)].toArray 22 (0, 0)), keepA w] := hs37.front 4 (by simp)
    refine ops_store (off := 0) (cs := [(.int .i64 0)]) (vs := [(.int .i64 0)]) hs41 (by kernel_rfl) (by simp) rfl (fun w39 hs40 => ?_)
    have hs42 : St B' w [] w39 [blk b7 (.cells [(.int .i64 0)].toArray 3 (0, 0)), blk D24 (.deferred (some [])), blk b13 (.cells [(.pointer none)].toArray 22 (0, 0)), keepA w, blk b10 (.cells [(.bool false)].toArray 4 (0, 0)), blk b4 (.cells [(.pointer none)].toArray 22 (0, 0)), keepA w] := hs40
    have hs45 : St B' w [] w39 [blk b10 (.cells [(.bool false)].toArray 4 (0, 0)), blk b7 (.cells [(.int .i64 0)].toArray 3 (0, 0)), blk D24 (.deferred (some [])), blk b13 (.cells [(.pointer none)].toArray 22 (0, 0)), keepA w, blk b4 (.cells [(.pointer none)].toArray 22 (0, 0)), keepA w] := hs42.front 4 (by simp)
    refine ops_store (off := 0) (cs := [(.bool false)]) (vs := [(.bool false)]) hs45 (by kernel_rfl) (by simp) rfl (fun w43 hs44 => ?_)
    have hs46 : St B' w [] w43 [blk b10 (.cells [(.bool false)].toArray 4 (0, 0)), blk b7 (.cells [(.int .i64 0)].toArray 3 (0, 0)), blk D24 (.deferred (some [])), blk b13 (.cells [(.pointer none)].toArray 22 (0, 0)), keepA w, blk b4 (.cells [(.pointer none)].toArray 22 (0, 0)), keepA w] := hs44
    refine ops_done (by kernel_rfl) ?_
    refine hK38 _ _ ?_
    clear hK38
    refine W.ret ?_
    obtain rfl := some_inj hm
    have hs47 : St B' w [] w43 [keepA w, blk b10 (.cells [(.bool false)].toArray 4 (0, 0)), blk b7 (.cells [(.int .i64 0)].toArray 3 (0, 0)), blk D24 (.deferred (some [])), blk b13 (.cells [(.pointer none)].toArray 22 (0, 0)), blk b4 (.cells [(.pointer none)].toArray 22 (0, 0)), keepA w] := hs46.front 4 (by simp)
    have hs48 : St B' w [] w43 [blk b4 (.cells [(.pointer none)].toArray 22 (0, 0)), keepA w, blk b10 (.cells [(.bool false)].toArray 4 (0, 0)), blk b7 (.cells [(.int .i64 0)].toArray 3 (0, 0)), blk D24 (.deferred (some [])), blk b13 (.cells [(.pointer none)].toArray 22 (0, 0)), keepA w] := hs47.front 5 (by simp)
    have hs49 : St B' w [] w43 [keepA w, blk b4 (.cells [(.pointer none)].toArray 22 (0, 0)), blk b10 (.cells [(.bool false)].toArray 4 (0, 0)), blk b7 (.cells [(.int .i64 0)].toArray 3 (0, 0)), blk D24 (.deferred (some [])), blk b13 (.cells [(.pointer none)].toArray 22 (0, 0)), keepA w] := hs48.front 1 (by simp)
    have hs50 : St B' w [] w43 [blk b13 (.cells [(.pointer none)].toArray 22 (0, 0)), keepA w, blk b4 (.cells [(.pointer none)].toArray 22 (0, 0)), blk b10 (.cells [(.bool false)].toArray 4 (0, 0)), blk b7 (.cells [(.int .i64 0)].toArray 3 (0, 0)), blk D24 (.deferred (some [])), keepA w] := hs49.front 5 (by simp)
    have hs51 : St B' w [] w43 [blk b7 (.cells [(.int .i64 0)].toArray 3 (0, 0)), blk b13 (.cells [(.pointer none)].toArray 22 (0, 0)), keepA w, blk b4 (.cells [(.pointer none)].toArray 22 (0, 0)), blk b10 (.cells [(.bool false)].toArray 4 (0, 0)), blk D24 (.deferred (some [])), keepA w] := hs50.front 4 (by simp)
    have hs52 : St B' w [] w43 [blk b10 (.cells [(.bool false)].toArray 4 (0, 0)), blk b7 (.cells [(.int .i64 0)].toArray 3 (0, 0)), blk b13 (.cells [(.pointer none)].toArray 22 (0, 0)), keepA w, blk b4 (.cells [(.pointer none)].toArray 22 (0, 0)), blk D24 (.deferred (some [])), keepA w] := hs51.front 4 (by simp)
    have hs53 : St B' w [] w43 [blk D24 (.deferred (some [])), blk b10 (.cells [(.bool false)].toArray 4 (0, 0)), blk b7 (.cells [(.int .i64 0)].toArray 3 (0, 0)), blk b13 (.cells [(.pointer none)].toArray 22 (0, 0)), keepA w, blk b4 (.cells [(.pointer none)].toArray 22 (0, 0)), keepA w] := hs52.front 5 (by simp)
    refine leave_mark (D := D24) (v := (.tuple #[(.int .i64 0), (.bool false)])) hs53 (by kernel_rfl) (fun w54 hs55 => (resD_two rfl (.cell (ad := ⟨b7, 0, none⟩) (by kernel_rfl) (by kernel_rfl) (hs55.cellAt 1 rfl rfl)) (.cell (ad := ⟨b10, 0, none⟩) (by kernel_rfl) (by kernel_rfl) (hs55.cellAt 0 rfl rfl)))) (fun w54 hs55 => ?_)
    have hs56 : St B' w [] w54 [] := St.take (H := []) hs55
    exact ⟨rfl, hs56⟩
  ·
    rintro _ _ _ h_ _
    exact h_.elim
  ·
    intro k_ hk_
    exact absurd hk_ (Nat.not_lt_zero _)

end Go.Proofs.YthimamnblklkbaaDoor
