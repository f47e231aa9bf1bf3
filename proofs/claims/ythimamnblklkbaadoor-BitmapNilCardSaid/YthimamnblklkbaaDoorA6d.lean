/- What the code computes, by a program. -/
import Derived.Test.YthimamnblklkbaaDoorF06c
import Derived.Test.YthimamnblklkbaaDoorF06t
import Derived.Test.YthimamnblklkbaaDoorRg
namespace Go.Proofs.YthimamnblklkbaaDoor
open Go Go.RowKit
set_option linter.unusedSimpArgs false
set_option linter.unusedVariables false

def mclear_D26  : Option (Int × Bool) :=
  some (0, false)

def mclear_X26 (p27 : Int) : Option (Int × Bool) :=
  some (p27, true)

def mclear_J4 (c20 : Unit → Option (Int × Bool)) (r88 : Int) (p90 : Bool) : Option (Int × Bool) :=
  if p90 = true then (mclear_X26 r88) else (c20 ())

def mclear_R26 (img : List Int) (l : List (Int × Int)) (at_ : Int) (many : Int) (k19 : Nat) (c20 : Unit → Option (Int × Bool)) : Option (Int × Bool) :=
  (some (mwordAt img l at_ many k19)).bind fun r78 =>
need (0 ≤ (bits .xor .u64 18446744073709551615 r78) ∧ (bits .xor .u64 18446744073709551615 r78) < 18446744073709551616) <|
need (-9223372036854775808 ≤ ((64 * (k19 : Int)) + (Lib.ctz 64 (bits .xor .u64 18446744073709551615 r78).toNat : Int)) ∧ ((64 * (k19 : Int)) + (Lib.ctz 64 (bits .xor .u64 18446744073709551615 r78).toNat : Int)) ≤ 9223372036854775807) <|
(some ((64 * (k19 : Int)) + (Lib.ctz 64 (bits .xor .u64 18446744073709551615 r78).toNat : Int))).bind fun r88 =>
need (-9223372036854775808 ≤ ((64 * (k19 : Int)) + 64) ∧ ((64 * (k19 : Int)) + 64) ≤ 9223372036854775807) <|
if r88 < ((64 * (k19 : Int)) + 64) then (mclear_J4 c20 r88 (decide (r88 < many))) else (mclear_J4 c20 r88 false)

def mclear_M (img : List Int) (l : List (Int × Int)) (at_ : Int) (many : Int) : Option (Int × Bool) :=
  need ((0 ≤ at_ ∧ at_ ≤ 1000000000000) ∧ (1 ≤ many ∧ many ≤ 1000000000000)) <|
rounds (fun k_ c_ s_ => mclear_R26 img l at_ many k_ c_) (fun s_ => mclear_D26) (nWords many) 0 ()

set_option maxRecDepth 20000 in
set_option maxHeartbeats 2000000 in
set_option linter.unusedVariables false in
theorem mclear_walk {img : List Int} {l : List (Int × Int)} {at_ : Int} {many : Int} {mb vb : Nat} {r : Int × Bool} (B : Nat) (w : World) (hmb : w.heap[mb]? = some (.cells [(.pointer (some ⟨vb, 0, none⟩)), (.int .i64 at_), (.int .i64 many)].toArray 151 (0, 0))) (hv : ViewAt (ptr vb) img l w) (hT : CellsAt (some ⟨0, 0, none⟩) tab8 w) (hm : mclear_M img l at_ many = some r) : Spec Tryd.prog 22 #[(.pointer (some ⟨mb, 0, none⟩))] B w [] (fun v H' => v = .tuple #[.int .i64 r.1, .bool r.2] ∧ H' = []) := by
  refine spec_K Tryd.func22 rfl fun B' hB' hs => ?_
  unfold mclear_M at hm
  refine W.seq fun K1 hK1 => ?_
  refine W.region ?_
  refine ops_new (fun b => .pointer (some ⟨b, 0, none⟩)) (.cells [(.pointer (some ⟨mb, 0, none⟩))].toArray 22 (0, 0)) hs (by kernel_rfl) (fun b4 w2 hs3 => ?_)
  refine ops_new (fun b => .pointer (some ⟨b, 0, none⟩)) (.cells [(.int .i64 0)].toArray 3 (0, 0)) hs3 (by kernel_rfl) (fun b7 w5 hs6 => ?_)
  refine ops_new (fun b => .pointer (some ⟨b, 0, none⟩)) (.cells [(.bool false)].toArray 4 (0, 0)) hs6 (by kernel_rfl) (fun b10 w8 hs9 => ?_)
  refine ops_done (by kernel_rfl) ?_
  refine hK1 _ _ ?_
  clear hK1
  refine W.seq fun K11 hK11 => ?_
  refine W.seq fun K12 hK12 => ?_
  refine W.region ?_
  refine ops_R (runs_load (ad := ⟨b4, 0, none⟩) (v := (.pointer (some ⟨mb, 0, none⟩))) (by kernel_rfl) (hs9.cellAt 2 rfl rfl)) ?_
  refine ops_call (pre := []) hs9 (by kernel_rfl) (words_spec (mp := (some ⟨mb, 0, none⟩)) B' _) ?_
  rintro _ _ w14 ⟨b13, rfl, rfl⟩ hs15
  have hs16 : St B' w [] w14 [blk b13 (.cells [(.pointer (some ⟨mb, 0, none⟩))].toArray 22 (0, 0)), blk b10 (.cells [(.bool false)].toArray 4 (0, 0)), blk b7 (.cells [(.int .i64 0)].toArray 3 (0, 0)), blk b4 (.cells [(.pointer (some ⟨mb, 0, none⟩))].toArray 22 (0, 0)), keepA w] := hs15
  refine ops_done (by kernel_rfl) ?_
  refine hK12 _ _ ?_
  clear hK12
  refine W.block ?_
  obtain ⟨h17, hm⟩ := need_some hm
  refine W.norm (n := 29) (l := [(1, (.pointer (some ⟨b4, 0, none⟩))), (2, (.pointer (some ⟨b7, 0, none⟩))), (3, (.pointer (some ⟨b10, 0, none⟩))), (8, (.func (.func 140) #[] #[(.pointer (some ⟨b13, 0, none⟩))]))]) (by kernel_rfl) (fun us18 => ?_)
  have hs21 : St B' w [] w14 [blk b4 (.cells [(.pointer (some ⟨mb, 0, none⟩))].toArray 22 (0, 0)), blk b13 (.cells [(.pointer (some ⟨mb, 0, none⟩))].toArray 22 (0, 0)), blk b10 (.cells [(.bool false)].toArray 4 (0, 0)), blk b7 (.cells [(.int .i64 0)].toArray 3 (0, 0)), keepA w] := hs16.front 3 (by simp)
  have hs22 : St B' w [] w14 [blk b7 (.cells [(.int .i64 0)].toArray 3 (0, 0)), blk b4 (.cells [(.pointer (some ⟨mb, 0, none⟩))].toArray 22 (0, 0)), blk b13 (.cells [(.pointer (some ⟨mb, 0, none⟩))].toArray 22 (0, 0)), blk b10 (.cells [(.bool false)].toArray 4 (0, 0)), keepA w] := hs21.front 3 (by simp)
  have hs23 : St B' w [] w14 [blk b10 (.cells [(.bool false)].toArray 4 (0, 0)), blk b7 (.cells [(.int .i64 0)].toArray 3 (0, 0)), blk b4 (.cells [(.pointer (some ⟨mb, 0, none⟩))].toArray 22 (0, 0)), blk b13 (.cells [(.pointer (some ⟨mb, 0, none⟩))].toArray 22 (0, 0)), keepA w] := hs22.front 3 (by simp)
  have hs24 : St B' w [] w14 [blk b13 (.cells [(.pointer (some ⟨mb, 0, none⟩))].toArray 22 (0, 0)), blk b10 (.cells [(.bool false)].toArray 4 (0, 0)), blk b7 (.cells [(.int .i64 0)].toArray 3 (0, 0)), blk b4 (.cells [(.pointer (some ⟨mb, 0, none⟩))].toArray 22 (0, 0)), keepA w] := hs23.front 3 (by simp)
  have hs25 : St B' w [] w14 [keepA w, blk b13 (.cells [(.pointer (some ⟨mb, 0, none⟩))].toArray 22 (0, 0)), blk b10 (.cells [(.bool false)].toArray 4 (0, 0)), blk b7 (.cells [(.int .i64 0)].toArray 3 (0, 0)), blk b4 (.cells [(.pointer (some ⟨mb, 0, none⟩))].toArray 22 (0, 0))] := hs24.front 4 (by simp)
  have hs32 : St B' w [] w14 [keepA w, blk b13 (.cells [(.pointer (some ⟨mb, 0, none⟩))].toArray 22 (0, 0)), blk b10 (.cells [(.bool false)].toArray 4 (0, 0)), blk b7 (.cells [(.int .i64 0)].toArray 3 (0, 0)), blk b4 (.cells [(.pointer (some ⟨mb, 0, none⟩))].toArray 22 (0, 0))] := hs25.front 0 (by simp)
  have hs33 := hs32.keep2
  have hs34 : St B' w [] w14 [blk b4 (.cells [(.pointer (some ⟨mb, 0, none⟩))].toArray 22 (0, 0)), keepA w, keepA w, blk b13 (.cells [(.pointer (some ⟨mb, 0, none⟩))].toArray 22 (0, 0)), blk b10 (.cells [(.bool false)].toArray 4 (0, 0)), blk b7 (.cells [(.int .i64 0)].toArray 3 (0, 0))] := hs33.front 5 (by simp)
  have hs35 : St B' w [] w14 [blk b7 (.cells [(.int .i64 0)].toArray 3 (0, 0)), blk b4 (.cells [(.pointer (some ⟨mb, 0, none⟩))].toArray 22 (0, 0)), keepA w, keepA w, blk b13 (.cells [(.pointer (some ⟨mb, 0, none⟩))].toArray 22 (0, 0)), blk b10 (.cells [(.bool false)].toArray 4 (0, 0))] := hs34.front 5 (by simp)
  have hs36 : St B' w [] w14 [blk b10 (.cells [(.bool false)].toArray 4 (0, 0)), blk b7 (.cells [(.int .i64 0)].toArray 3 (0, 0)), blk b4 (.cells [(.pointer (some ⟨mb, 0, none⟩))].toArray 22 (0, 0)), keepA w, keepA w, blk b13 (.cells [(.pointer (some ⟨mb, 0, none⟩))].toArray 22 (0, 0))] := hs35.front 5 (by simp)
  have hs37 : St B' w [] w14 [keepA w, blk b10 (.cells [(.bool false)].toArray 4 (0, 0)), blk b7 (.cells [(.int .i64 0)].toArray 3 (0, 0)), blk b4 (.cells [(.pointer (some ⟨mb, 0, none⟩))].toArray 22 (0, 0)), keepA w, blk b13 (.cells [(.pointer (some ⟨mb, 0, none⟩))].toArray 22 (0, 0))] := hs36.front 4 (by simp)
  have hs38 : St B' w [] w14 [blk b13 (.cells [(.pointer (some ⟨mb, 0, none⟩))].toArray 22 (0, 0)), keepA w, blk b10 (.cells [(.bool false)].toArray 4 (0, 0)), blk b7 (.cells [(.int .i64 0)].toArray 3 (0, 0)), blk b4 (.cells [(.pointer (some ⟨mb, 0, none⟩))].toArray 22 (0, 0)), keepA w] := hs37.front 5 (by simp)
  have hs39 : St B' w [] w14 [keepA w, blk b13 (.cells [(.pointer (some ⟨mb, 0, none⟩))].toArray 22 (0, 0)), keepA w, blk b10 (.cells [(.bool false)].toArray 4 (0, 0)), blk b7 (.cells [(.int .i64 0)].toArray 3 (0, 0)), blk b4 (.cells [(.pointer (some ⟨mb, 0, none⟩))].toArray 22 (0, 0))] := hs38.front 5 (by simp)
  have hF40 : rounds (fun k_ c_ s_ => mclear_R26 img l at_ many k_ c_) (fun s_ => mclear_D26) ((nWords many) - 0) 0 () = some r := by rw [Nat.sub_zero]; exact hm
  clear hm
  refine W.roundsA (G := Unit) (GZ := Int) (gf := 140) (lb := #[(.pointer (some ⟨b13, 0, none⟩))]) (nWords many) (fun k_ _ => rounds (fun k_ c_ s_ => mclear_R26 img l at_ many k_ c_) (fun s_ => mclear_D26) ((nWords many) - k_) k_ () = some r) (fun _ => [keepA w, blk b10 (.cells [(.bool false)].toArray 4 (0, 0)), blk b7 (.cells [(.int .i64 0)].toArray 3 (0, 0)), blk b4 (.cells [(.pointer (some ⟨mb, 0, none⟩))].toArray 22 (0, 0))]) .ret (fun p27 => mclear_X26 p27 = some r) (fun p27 => [keepA w, blk b10 (.cells [(.bool true)].toArray 4 (0, 0)), blk b7 (.cells [(.int .i64 p27)].toArray 3 (0, 0)), blk b4 (.cells [(.pointer (some ⟨mb, 0, none⟩))].toArray 22 (0, 0))]) [keepA w, blk b13 (.cells [(.pointer (some ⟨mb, 0, none⟩))].toArray 22 (0, 0))] (fun k_ => #[(.int .i64 (64 * (k_ : Int))), (.int .u64 (mwordAt img l at_ many k_))]) (fun k_ l_ => slotsD 29 ((10, (.int .u64 (mwordAt img l at_ many k_))) :: (9, (.int .i64 (64 * (k_ : Int)))) :: [(1, (.pointer (some ⟨b4, 0, none⟩))), (2, (.pointer (some ⟨b7, 0, none⟩))), (3, (.pointer (some ⟨b10, 0, none⟩))), (8, (.func (.func 140) #[] #[(.pointer (some ⟨b13, 0, none⟩))]))]) us18 (some l_) []) () hF40 hs39 rfl (by kernel_rfl) (fun _ _ => by kernel_rfl) (fun _ => rfl) (fun a_ k_ l_ h1_ h2_ => ⟨rel_round2 (by decide) (by decide) h1_ h2_, rfl⟩) (fun l_ => #[.func (.yield l_) #[] #[], (.pointer (some ⟨b13, 0, none⟩))]) (fun _ => rfl) (fun l_ w_ Y_ Z_ hy_ => words1_spec (yl := l_) (w00 := w) (Y := Y_) (Z := Z_) (hM := h17) (hmb := hmb) (hv := hv) (hy := fun k_ h_ w_ => hy_ k_ (by unfold nWords; omega) w_) _ w_) ?_ ?_ ?_
  rotate_left
  ·
    rintro D31 w41 _ hF43 hs42
    replace hF43 : rounds (fun k_ c_ s_ => mclear_R26 img l at_ many k_ c_) (fun s_ => mclear_D26) ((nWords many) - (nWords many)) (nWords many) () = some r := hF43
    rw [rounds_end] at hF43
    have hm : mclear_D26 = some r := hF43
    clear hF43
    unfold mclear_D26 at hm
    have hs44 : St B' w [] w41 [blk D31 (.deferred (some [])), keepA w, blk b13 (.cells [(.pointer (some ⟨mb, 0, none⟩))].toArray 22 (0, 0)), keepA w, blk b10 (.cells [(.bool false)].toArray 4 (0, 0)), blk b7 (.cells [(.int .i64 0)].toArray 3 (0, 0)), blk b4 (.cells [(.pointer (some ⟨mb, 0, none⟩))].toArray 22 (0, 0))] := hs42
    refine normal_block ?_
    refine hK11 _ _ ?_
    clear hK11
    refine W.seq fun K45 hK45 => ?_
    refine W.region ?_
    have hs48 : St B' w [] w41 [blk b7 (.cells [(.int .i64 0)].toArray 3 (0, 0)), blk D31 (.deferred (some [])), keepA w, blk b13 (.cells [(.pointer (some ⟨mb, 0, none⟩))].toArray 22 (0, 0)), keepA w, blk b10 (.cells [(.bool false)].toArray 4 (0, 0)), blk b4 (.cells [(.pointer (some ⟨mb, 0, none⟩))].toArray 22 (0, 0))] := hs44.front 5 (by simp)
    refine ops_store (off := 0) (cs := [(.int .i64 0)]) (vs := [(.int .i64 0)]) hs48 (by kernel_rfl) (by simp) rfl (fun w46 hs47 => ?_)
    have hs49 : St B' w [] w46 [blk b7 (.cells [(.int .i64 0)].toArray 3 (0, 0)), blk D31 (.deferred (some [])), keepA w, blk b13 (.cells [(.pointer (some ⟨mb, 0, none⟩))].toArray 22 (0, 0)), keepA w, blk b10 (.cells [(.bool false)].toArray 4 (0, 0)), blk b4 (.cells [(.pointer (some ⟨mb, 0, none⟩))].toArray 22 (0, 0))] := hs47
    have hs52 : St B' w [] w46 [blk b10 (.cells [(.bool false)].toArray 4 (0, 0)), blk b7 (.cells [(.int .i64 0)].toArray 3 (0, 0)), blk D31 (.deferred (some [])), keepA w, blk b13 (.cells [(.pointer (some ⟨mb, 0, none⟩))].toArray 22 (0, 0)), keepA w, blk b4 (.cells [(.pointer (some ⟨mb, 0, none⟩))].toArray 22 (0, 0))] := hs49.front 5 (by simp)
    refine ops_store (off := 0) (cs := [(.bool false)]) (vs := [(.bool false)]) hs52 (by kernel_rfl) (by simp) rfl (fun w50 hs51 => ?_)
    have hs53 : St B' w [] w50 [blk b10 (.cells [(.bool false)].toArray 4 (0, 0)), blk b7 (.cells [(.int .i64 0)].toArray 3 (0, 0)), blk D31 (.deferred (some [])), keepA w, blk b13 (.cells [(.pointer (some ⟨mb, 0, none⟩))].toArray 22 (0, 0)), keepA w, blk b4 (.cells [(.pointer (some ⟨mb, 0, none⟩))].toArray 22 (0, 0))] := hs51
    refine ops_done (by kernel_rfl) ?_
    refine hK45 _ _ ?_
    clear hK45
    refine W.ret ?_
    obtain rfl := some_inj hm
    have hs54 : St B' w [] w50 [blk b4 (.cells [(.pointer (some ⟨mb, 0, none⟩))].toArray 22 (0, 0)), blk b10 (.cells [(.bool false)].toArray 4 (0, 0)), blk b7 (.cells [(.int .i64 0)].toArray 3 (0, 0)), blk D31 (.deferred (some [])), keepA w, blk b13 (.cells [(.pointer (some ⟨mb, 0, none⟩))].toArray 22 (0, 0)), keepA w] := hs53.front 6 (by simp)
    have hs55 : St B' w [] w50 [keepA w, blk b4 (.cells [(.pointer (some ⟨mb, 0, none⟩))].toArray 22 (0, 0)), blk b10 (.cells [(.bool false)].toArray 4 (0, 0)), blk b7 (.cells [(.int .i64 0)].toArray 3 (0, 0)), blk D31 (.deferred (some [])), blk b13 (.cells [(.pointer (some ⟨mb, 0, none⟩))].toArray 22 (0, 0)), keepA w] := hs54.front 4 (by simp)
    have hs56 : St B' w [] w50 [blk b13 (.cells [(.pointer (some ⟨mb, 0, none⟩))].toArray 22 (0, 0)), keepA w, blk b4 (.cells [(.pointer (some ⟨mb, 0, none⟩))].toArray 22 (0, 0)), blk b10 (.cells [(.bool false)].toArray 4 (0, 0)), blk b7 (.cells [(.int .i64 0)].toArray 3 (0, 0)), blk D31 (.deferred (some [])), keepA w] := hs55.front 5 (by simp)
    have hs57 : St B' w [] w50 [keepA w, blk b13 (.cells [(.pointer (some ⟨mb, 0, none⟩))].toArray 22 (0, 0)), blk b4 (.cells [(.pointer (some ⟨mb, 0, none⟩))].toArray 22 (0, 0)), blk b10 (.cells [(.bool false)].toArray 4 (0, 0)), blk b7 (.cells [(.int .i64 0)].toArray 3 (0, 0)), blk D31 (.deferred (some [])), keepA w] := hs56.front 1 (by simp)
    have hs58 : St B' w [] w50 [blk b7 (.cells [(.int .i64 0)].toArray 3 (0, 0)), keepA w, blk b13 (.cells [(.pointer (some ⟨mb, 0, none⟩))].toArray 22 (0, 0)), blk b4 (.cells [(.pointer (some ⟨mb, 0, none⟩))].toArray 22 (0, 0)), blk b10 (.cells [(.bool false)].toArray 4 (0, 0)), blk D31 (.deferred (some [])), keepA w] := hs57.front 4 (by simp)
    have hs59 : St B' w [] w50 [blk b10 (.cells [(.bool false)].toArray 4 (0, 0)), blk b7 (.cells [(.int .i64 0)].toArray 3 (0, 0)), keepA w, blk b13 (.cells [(.pointer (some ⟨mb, 0, none⟩))].toArray 22 (0, 0)), blk b4 (.cells [(.pointer (some ⟨mb, 0, none⟩))].toArray 22 (0, 0)), blk D31 (.deferred (some [])), keepA w] := hs58.front 4 (by simp)
    have hs60 : St B' w [] w50 [blk D31 (.deferred (some [])), blk b10 (.cells [(.bool false)].toArray 4 (0, 0)), blk b7 (.cells [(.int .i64 0)].toArray 3 (0, 0)), keepA w, blk b13 (.cells [(.pointer (some ⟨mb, 0, none⟩))].toArray 22 (0, 0)), blk b4 (.cells [(.pointer (some ⟨mb, 0, none⟩))].toArray 22 (0, 0)), keepA w] := hs59.front 5 (by simp)
    refine leave_mark (D := D31) (v := (.tuple #[(.int .i64 0), (.bool false)])) hs60 (by kernel_rfl) (fun w61 hs62 => (resD_two rfl (.cell (ad := ⟨b7, 0, none⟩) (by kernel_rfl) (by kernel_rfl) (hs62.cellAt 1 rfl rfl)) (.cell (ad := ⟨b10, 0, none⟩) (by kernel_rfl) (by kernel_rfl) (hs62.cellAt 0 rfl rfl)))) (fun w61 hs62 => ?_)
    have hs63 : St B' w [] w61 [] := St.take (H := []) hs62
    exact ⟨rfl, hs63⟩
  ·
    rintro D66 w64 p27 hm hs65
    replace hm : mclear_X26 p27 = some r := hm
    unfold mclear_X26 at hm
    have hs67 : St B' w [] w64 [blk D66 (.deferred (some [])), keepA w, blk b13 (.cells [(.pointer (some ⟨mb, 0, none⟩))].toArray 22 (0, 0)), keepA w, blk b10 (.cells [(.bool true)].toArray 4 (0, 0)), blk b7 (.cells [(.int .i64 p27)].toArray 3 (0, 0)), blk b4 (.cells [(.pointer (some ⟨mb, 0, none⟩))].toArray 22 (0, 0))] := hs65
    refine W.ret (ret_block (ret_seq ?_))
    obtain rfl := some_inj hm
    refine leave_mark (D := D66) (v := (.tuple #[(.int .i64 p27), (.bool true)])) hs67 (by kernel_rfl) (fun w68 hs69 => (resD_two rfl (.cell (ad := ⟨b7, 0, none⟩) (by kernel_rfl) (by kernel_rfl) (hs69.cellAt 4 rfl rfl)) (.cell (ad := ⟨b10, 0, none⟩) (by kernel_rfl) (by kernel_rfl) (hs69.cellAt 3 rfl rfl)))) (fun w68 hs69 => ?_)
    have hs70 : St B' w [] w68 [] := St.take (H := []) hs69
    exact ⟨rfl, hs70⟩
  ·
    rintro k19 hk71 rc29 l28 w72 _ hF76 lf73 hs74 K75 hK75
    replace hF76 : rounds (fun k_ c_ s_ => mclear_R26 img l at_ many k_ c_) (fun s_ => mclear_D26) ((nWords many) - k19) k19 () = some r := hF76
    rw [rounds_at hk71] at hF76
    obtain ⟨c20, hc20⟩ : ∃ c_, c_ = rounds (fun k_ c_ s_ => mclear_R26 img l at_ many k_ c_) (fun s_ => mclear_D26) ((nWords many) - (k19 + 1)) (k19 + 1) := ⟨_, rfl⟩
    rw [← hc20] at hF76
    have hm : mclear_R26 img l at_ many k19 c20 = some r := hF76
    clear hF76
    unfold mclear_R26 at hm
    refine W.seq fun K77 hK77 => ?_
    refine W.region ?_
    refine ops_run 1 (by kernel_rfl) ?_
    refine ops_done (by kernel_rfl) ?_
    refine hK77 _ _ ?_
    clear hK77
    refine W.region ?_
    refine ops_run 1 (by kernel_rfl) ?_
    obtain ⟨r78, h79, hm⟩ := bind_some hm
    replace h79 := some_inj h79
    refine ops_set 5 (v := .int .u64 r78) (Eq.trans (by kernel_rfl) (congrArg (Value.int .u64) h79)) ?_
    refine ops_done (by kernel_rfl) ?_
    refine hK75 _ _ hs74 (fun w80 hs81 => ?_)
    refine W.block ?_
    refine W.seq fun K82 hK82 => ?_
    refine W.region ?_
    refine ops_run 3 (by kernel_rfl) ?_
    obtain ⟨h83, hm⟩ := need_some hm
    refine ops_call (pre := []) hs81 (by kernel_rfl) (tz64_spec (x := (bits .xor .u64 18446744073709551615 r78)) (hx := h83) (hT := ((St.kept hs81 1 rfl).cells hT)) B' _) ?_
    rintro _ _ w84 ⟨rfl, rfl⟩ hs85
    have hs86 : St B' w72 lf73 w84 [blk l28 (.loop { rc29 with state := .busy }), keepA w, blk b10 (.cells [(.bool false)].toArray 4 (0, 0)), blk b7 (.cells [(.int .i64 0)].toArray 3 (0, 0)), blk b4 (.cells [(.pointer (some ⟨mb, 0, none⟩))].toArray 22 (0, 0))] := hs85
    obtain ⟨h87, hm⟩ := need_some hm
    refine ops_val (v := .int .i64 (IntKind.i64.wrap ((64 * (k19 : Int)) + (Lib.ctz 64 (bits .xor .u64 18446744073709551615 r78).toNat : Int)))) (v' := .int .i64 ((64 * (k19 : Int)) + (Lib.ctz 64 (bits .xor .u64 18446744073709551615 r78).toNat : Int))) (by kernel_rfl) (congrArg (Value.int .i64) (wrap_i64 h87.1 h87.2)) ?_
    refine ops_run 1 (by kernel_rfl) ?_
    obtain ⟨r88, h89, hm⟩ := bind_some hm
    replace h89 := some_inj h89
    refine ops_set 6 (v := .int .i64 r88) (Eq.trans (by kernel_rfl) (congrArg (Value.int .i64) h89)) ?_
    refine ops_done (by kernel_rfl) ?_
    refine hK82 _ _ ?_
    clear hK82
    refine W.seq_join (fun s_ w_ => ∃ (p90 : Bool), (∃ us, s_ = slotsD 29 [(2, (.pointer (some ⟨b7, 0, none⟩))), (3, (.pointer (some ⟨b10, 0, none⟩))), (6, (.int .i64 r88)), (27, (.bool p90))] us (some l28) []) ∧ St B' w72 lf73 w_ [blk l28 (.loop { rc29 with state := .busy }), keepA w, blk b10 (.cells [(.bool false)].toArray 4 (0, 0)), blk b7 (.cells [(.int .i64 0)].toArray 3 (0, 0)), blk b4 (.cells [(.pointer (some ⟨mb, 0, none⟩))].toArray 22 (0, 0))] ∧ mclear_J4 c20 r88 p90 = some r) ?_ ?_
    ·
      rintro _ w91 ⟨p90, ⟨us, rfl⟩, hs92, hm⟩
      unfold mclear_J4 at hm
      refine W.cond p90 (by kernel_rfl) (fun h93 => ?_) (fun h93 => ?_)
      ·
        have h93p : p90 = true := h93
        replace hm := ite_yes hm h93p
        refine W.seq fun K94 hK94 => ?_
        refine W.region ?_
        refine ops_run 1 (by kernel_rfl) ?_
        have hs97 : St B' w72 lf73 w91 [blk b7 (.cells [(.int .i64 0)].toArray 3 (0, 0)), blk l28 (.loop { rc29 with state := .busy }), keepA w, blk b10 (.cells [(.bool false)].toArray 4 (0, 0)), blk b4 (.cells [(.pointer (some ⟨mb, 0, none⟩))].toArray 22 (0, 0))] := hs92.front 3 (by simp)
        refine ops_store (off := 0) (cs := [(.int .i64 0)]) (vs := [(.int .i64 r88)]) hs97 (by kernel_rfl) (by simp) rfl (fun w95 hs96 => ?_)
        have hs98 : St B' w72 lf73 w95 [blk b7 (.cells [(.int .i64 r88)].toArray 3 (0, 0)), blk l28 (.loop { rc29 with state := .busy }), keepA w, blk b10 (.cells [(.bool false)].toArray 4 (0, 0)), blk b4 (.cells [(.pointer (some ⟨mb, 0, none⟩))].toArray 22 (0, 0))] := hs96
        have hs101 : St B' w72 lf73 w95 [blk b10 (.cells [(.bool false)].toArray 4 (0, 0)), blk b7 (.cells [(.int .i64 r88)].toArray 3 (0, 0)), blk l28 (.loop { rc29 with state := .busy }), keepA w, blk b4 (.cells [(.pointer (some ⟨mb, 0, none⟩))].toArray 22 (0, 0))] := hs98.front 3 (by simp)
        refine ops_store (off := 0) (cs := [(.bool false)]) (vs := [(.bool true)]) hs101 (by kernel_rfl) (by simp) rfl (fun w99 hs100 => ?_)
        have hs102 : St B' w72 lf73 w99 [blk b10 (.cells [(.bool true)].toArray 4 (0, 0)), blk b7 (.cells [(.int .i64 r88)].toArray 3 (0, 0)), blk l28 (.loop { rc29 with state := .busy }), keepA w, blk b4 (.cells [(.pointer (some ⟨mb, 0, none⟩))].toArray 22 (0, 0))] := hs100
        refine ops_done (by kernel_rfl) ?_
        refine hK94 _ _ ?_
        clear hK94
        refine W.ret (ret_block ?_)
        have hs103 : St B' w72 lf73 w99 [blk b4 (.cells [(.pointer (some ⟨mb, 0, none⟩))].toArray 22 (0, 0)), blk b10 (.cells [(.bool true)].toArray 4 (0, 0)), blk b7 (.cells [(.int .i64 r88)].toArray 3 (0, 0)), blk l28 (.loop { rc29 with state := .busy }), keepA w] := hs102.front 4 (by simp)
        have hs104 : St B' w72 lf73 w99 [blk b7 (.cells [(.int .i64 r88)].toArray 3 (0, 0)), blk b4 (.cells [(.pointer (some ⟨mb, 0, none⟩))].toArray 22 (0, 0)), blk b10 (.cells [(.bool true)].toArray 4 (0, 0)), blk l28 (.loop { rc29 with state := .busy }), keepA w] := hs103.front 2 (by simp)
        have hs105 : St B' w72 lf73 w99 [blk b10 (.cells [(.bool true)].toArray 4 (0, 0)), blk b7 (.cells [(.int .i64 r88)].toArray 3 (0, 0)), blk b4 (.cells [(.pointer (some ⟨mb, 0, none⟩))].toArray 22 (0, 0)), blk l28 (.loop { rc29 with state := .busy }), keepA w] := hs104.front 2 (by simp)
        have hs106 : St B' w72 lf73 w99 [keepA w, blk b10 (.cells [(.bool true)].toArray 4 (0, 0)), blk b7 (.cells [(.int .i64 r88)].toArray 3 (0, 0)), blk b4 (.cells [(.pointer (some ⟨mb, 0, none⟩))].toArray 22 (0, 0)), blk l28 (.loop { rc29 with state := .busy })] := hs105.front 4 (by simp)
        have hs107 : St B' w72 lf73 w99 [blk l28 (.loop { rc29 with state := .busy }), keepA w, blk b10 (.cells [(.bool true)].toArray 4 (0, 0)), blk b7 (.cells [(.int .i64 r88)].toArray 3 (0, 0)), blk b4 (.cells [(.pointer (some ⟨mb, 0, none⟩))].toArray 22 (0, 0))] := hs106.front 4 (by simp)
        exact ⟨rfl, r88, hm, hs107⟩
      ·
        have h93p : ¬ (p90 = true) := ne_true_of_eq_false h93
        replace hm := ite_no hm h93p
        refine W.skip ?_
        refine normal_block ?_
        rw [hc20] at hm
        exact ⟨(), hm, hs92⟩
    ·
      refine W.region ?_
      refine ops_run 2 (by kernel_rfl) ?_
      obtain ⟨h108, hm⟩ := need_some hm
      refine ops_val (v := .int .i64 (IntKind.i64.wrap ((64 * (k19 : Int)) + 64))) (v' := .int .i64 ((64 * (k19 : Int)) + 64)) (by kernel_rfl) (congrArg (Value.int .i64) (wrap_i64 h108.1 h108.2)) ?_
      refine ops_run 2 (by kernel_rfl) ?_
      rcases Bool.eq_false_or_eq_true (decide (r88 < ((64 * (k19 : Int)) + 64))) with h109 | h109
      ·
        have h109p : r88 < ((64 * (k19 : Int)) + 64) := of_decide_eq_true h109
        replace hm := ite_yes hm h109p
        refine ops_set 20 (v := .bool true) (eq_bool_of (by kernel_rfl) h109) ?_
        refine ops_set 19 (v := .bool true) (eq_bool_of (by kernel_rfl) h109) ?_
        refine ops_run 1 (by kernel_rfl) ?_
        refine ops_R (runs_load (ad := ⟨b4, 0, none⟩) (v := (.pointer (some ⟨mb, 0, none⟩))) (by kernel_rfl) (hs86.cellAt 4 rfl rfl)) ?_
        refine ops_run 2 (by kernel_rfl) ?_
        refine ops_R (runs_load (ad := ⟨mb, 2, none⟩) (v := (.int .i64 many)) (by kernel_rfl) (cell_of_blk ((St.kept hs86 1 rfl).blk hmb) rfl)) ?_
        refine ops_run 2 (by kernel_rfl) ?_
        refine ops_done (by kernel_rfl) ?_
        exact ⟨(decide (r88 < many)), slotsD_intro _ (by kernel_rfl), hs86, hm⟩
      ·
        have h109p : ¬ (r88 < ((64 * (k19 : Int)) + 64)) := of_decide_eq_false h109
        replace hm := ite_no hm h109p
        refine ops_set 20 (v := .bool false) (eq_bool_of (by kernel_rfl) h109) ?_
        refine ops_set 19 (v := .bool false) (eq_bool_of (by kernel_rfl) h109) ?_
        refine ops_run 7 (by kernel_rfl) ?_
        refine ops_done (by kernel_rfl) ?_
        exact ⟨false, slotsD_intro _ (by kernel_rfl), hs86, hm⟩

end Go.Proofs.YthimamnblklkbaaDoor
