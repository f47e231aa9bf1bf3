/- What the code computes, by a program. -/
import Derived.Test.YthimamnblklkbaaDoorF06c
import Derived.Test.YthimamnblklkbaaDoorA6o
import Derived.Test.YthimamnblklkbaaDoorRg
import Derived.Test.YthimamnblklkbaaDoorS2
namespace Go.Proofs.YthimamnblklkbaaDoor
open Go Go.RowKit
set_option linter.unusedSimpArgs false
set_option linter.unusedVariables false

def mcount_D19 (p18 : Int) : Option (Int) :=
  some p18

def mcount_R19 (img : List Int) (l : List (Int × Int)) (at_ : Int) (many : Int) (k13 : Nat) (c14 : Int → Option (Int)) (p18 : Int) : Option (Int) :=
  (some (mwordAt img l at_ many k13)).bind fun r54 =>
(ones_M r54).bind fun r65 =>
need (-9223372036854775808 ≤ (p18 + r65) ∧ (p18 + r65) ≤ 9223372036854775807) <|
c14 (p18 + r65)

def mcount_M (img : List Int) (l : List (Int × Int)) (at_ : Int) (many : Int) : Option (Int) :=
  need ((0 ≤ at_ ∧ at_ ≤ 1000000000000) ∧ (1 ≤ many ∧ many ≤ 1000000000000)) <|
rounds (fun k_ c_ s_ => mcount_R19 img l at_ many k_ c_ s_) (fun s_ => mcount_D19 s_) (nWords many) 0 0

set_option maxRecDepth 20000 in
set_option maxHeartbeats 2000000 in
set_option linter.unusedVariables false in
theorem mcount_walk {img : List Int} {l : List (Int × Int)} {at_ : Int} {many : Int} {mb vb : Nat} {r : Int} (B : Nat) (w : World) (hmb : w.heap[mb]? = some (.cells [(.pointer (some ⟨vb, 0, none⟩)), (.int .i64 at_), (.int .i64 many)].toArray 151 (0, 0))) (hv : ViewAt (ptr vb) img l w) (hm : mcount_M img l at_ many = some r) : Spec Tryd.prog 25 #[(.pointer (some ⟨mb, 0, none⟩))] B w [] (fun v H' => v = .int .i64 r ∧ H' = []) := by
  refine spec_K Tryd.func25 rfl fun B' hB' hs => ?_
  unfold mcount_M at hm
  refine W.seq fun K1 hK1 => ?_
  refine W.region ?_
  refine ops_new (fun b => .pointer (some ⟨b, 0, none⟩)) (.cells [(.int .i64 0)].toArray 3 (0, 0)) hs (by kernel_rfl) (fun b4 w2 hs3 => ?_)
  refine ops_done (by kernel_rfl) ?_
  refine hK1 _ _ ?_
  clear hK1
  refine W.seq fun K5 hK5 => ?_
  refine W.seq fun K6 hK6 => ?_
  refine W.region ?_
  refine ops_run 1 (by kernel_rfl) ?_
  refine ops_call (pre := []) hs3 (by kernel_rfl) (words_spec (mp := (some ⟨mb, 0, none⟩)) B' _) ?_
  rintro _ _ w8 ⟨b7, rfl, rfl⟩ hs9
  have hs10 : St B' w [] w8 [blk b7 (.cells [(.pointer (some ⟨mb, 0, none⟩))].toArray 22 (0, 0)), blk b4 (.cells [(.int .i64 0)].toArray 3 (0, 0)), keepA w] := hs9
  refine ops_done (by kernel_rfl) ?_
  refine hK6 _ _ ?_
  clear hK6
  refine W.block ?_
  obtain ⟨h11, hm⟩ := need_some hm
  refine W.norm (n := 14) (l := [(2, (.pointer (some ⟨b4, 0, none⟩))), (6, (.func (.func 140) #[] #[(.pointer (some ⟨b7, 0, none⟩))]))]) (by kernel_rfl) (fun us12 => ?_)
  have hs15 : St B' w [] w8 [blk b4 (.cells [(.int .i64 0)].toArray 3 (0, 0)), blk b7 (.cells [(.pointer (some ⟨mb, 0, none⟩))].toArray 22 (0, 0)), keepA w] := hs10.front 1 (by simp)
  have hs16 : St B' w [] w8 [blk b7 (.cells [(.pointer (some ⟨mb, 0, none⟩))].toArray 22 (0, 0)), blk b4 (.cells [(.int .i64 0)].toArray 3 (0, 0)), keepA w] := hs15.front 1 (by simp)
  have hs17 : St B' w [] w8 [keepA w, blk b7 (.cells [(.pointer (some ⟨mb, 0, none⟩))].toArray 22 (0, 0)), blk b4 (.cells [(.int .i64 0)].toArray 3 (0, 0))] := hs16.front 2 (by simp)
  have hs24 : St B' w [] w8 [keepA w, blk b7 (.cells [(.pointer (some ⟨mb, 0, none⟩))].toArray 22 (0, 0)), blk b4 (.cells [(.int .i64 0)].toArray 3 (0, 0))] := hs17.front 0 (by simp)
  have hs25 := hs24.keep2
  have hs26 : St B' w [] w8 [blk b4 (.cells [(.int .i64 0)].toArray 3 (0, 0)), keepA w, keepA w, blk b7 (.cells [(.pointer (some ⟨mb, 0, none⟩))].toArray 22 (0, 0))] := hs25.front 3 (by simp)
  have hs27 : St B' w [] w8 [keepA w, blk b4 (.cells [(.int .i64 0)].toArray 3 (0, 0)), keepA w, blk b7 (.cells [(.pointer (some ⟨mb, 0, none⟩))].toArray 22 (0, 0))] := hs26.front 2 (by simp)
  have hs28 : St B' w [] w8 [blk b7 (.cells [(.pointer (some ⟨mb, 0, none⟩))].toArray 22 (0, 0)), keepA w, blk b4 (.cells [(.int .i64 0)].toArray 3 (0, 0)), keepA w] := hs27.front 3 (by simp)
  have hs29 : St B' w [] w8 [keepA w, blk b7 (.cells [(.pointer (some ⟨mb, 0, none⟩))].toArray 22 (0, 0)), keepA w, blk b4 (.cells [(.int .i64 0)].toArray 3 (0, 0))] := hs28.front 3 (by simp)
  have hF30 : rounds (fun k_ c_ s_ => mcount_R19 img l at_ many k_ c_ s_) (fun s_ => mcount_D19 s_) ((nWords many) - 0) 0 0 = some r := by rw [Nat.sub_zero]; exact hm
  clear hm
  refine W.roundsA (G := Int) (GZ := Unit) (gf := 140) (lb := #[(.pointer (some ⟨b7, 0, none⟩))]) (nWords many) (fun k_ p18 => rounds (fun k_ c_ s_ => mcount_R19 img l at_ many k_ c_ s_) (fun s_ => mcount_D19 s_) ((nWords many) - k_) k_ p18 = some r) (fun p18 => [keepA w, blk b4 (.cells [(.int .i64 p18)].toArray 3 (0, 0))]) .ret (fun (_ : Unit) => False) (fun _ => []) [keepA w, blk b7 (.cells [(.pointer (some ⟨mb, 0, none⟩))].toArray 22 (0, 0))] (fun k_ => #[(.int .i64 (64 * (k_ : Int))), (.int .u64 (mwordAt img l at_ many k_))]) (fun k_ l_ => slotsD 14 ((8, (.int .u64 (mwordAt img l at_ many k_))) :: (7, (.int .i64 (64 * (k_ : Int)))) :: [(2, (.pointer (some ⟨b4, 0, none⟩))), (6, (.func (.func 140) #[] #[(.pointer (some ⟨b7, 0, none⟩))]))]) us12 (some l_) []) 0 hF30 hs29 rfl (by kernel_rfl) (fun _ _ => by kernel_rfl) (fun _ => rfl) (fun a_ k_ l_ h1_ h2_ => ⟨rel_round2 (by decide) (by decide) h1_ h2_, rfl⟩) (fun l_ => #[.func (.yield l_) #[] #[], (.pointer (some ⟨b7, 0, none⟩))]) (fun _ => rfl) (fun l_ w_ Y_ Z_ hy_ => words1_spec (yl := l_) (w00 := w) (Y := Y_) (Z := Z_) (hM := h11) (hmb := hmb) (hv := hv) (hy := fun k_ h_ w_ => hy_ k_ (by unfold nWords; omega) w_) _ w_) ?_ ?_ ?_
  rotate_left
  ·
    rintro D23 w31 p18 hF33 hs32
    replace hF33 : rounds (fun k_ c_ s_ => mcount_R19 img l at_ many k_ c_ s_) (fun s_ => mcount_D19 s_) ((nWords many) - (nWords many)) (nWords many) p18 = some r := hF33
    rw [rounds_end] at hF33
    have hm : mcount_D19 p18 = some r := hF33
    clear hF33
    unfold mcount_D19 at hm
    have hs34 : St B' w [] w31 [blk D23 (.deferred (some [])), keepA w, blk b7 (.cells [(.pointer (some ⟨mb, 0, none⟩))].toArray 22 (0, 0)), keepA w, blk b4 (.cells [(.int .i64 p18)].toArray 3 (0, 0))] := hs32
    refine normal_block ?_
    refine hK5 _ _ ?_
    clear hK5
    refine W.seq fun K35 hK35 => ?_
    refine W.region ?_
    refine ops_R (runs_load (ad := ⟨b4, 0, none⟩) (v := (.int .i64 p18)) (by kernel_rfl) (hs34.cellAt 4 rfl rfl)) ?_
    have hs38 : St B' w [] w31 [blk b4 (.cells [(.int .i64 p18)].toArray 3 (0, 0)), blk D23 (.deferred (some [])), keepA w, blk b7 (.cells [(.pointer (some ⟨mb, 0, none⟩))].toArray 22 (0, 0)), keepA w] := hs34.front 4 (by simp)
    refine ops_store (off := 0) (cs := [(.int .i64 p18)]) (vs := [(.int .i64 p18)]) hs38 (by kernel_rfl) (by simp) rfl (fun w36 hs37 => ?_)
    have hs39 : St B' w [] w36 [blk b4 (.cells [(.int .i64 p18)].toArray 3 (0, 0)), blk D23 (.deferred (some [])), keepA w, blk b7 (.cells [(.pointer (some ⟨mb, 0, none⟩))].toArray 22 (0, 0)), keepA w] := hs37
    refine ops_done (by kernel_rfl) ?_
    refine hK35 _ _ ?_
    clear hK35
    refine W.ret ?_
    obtain rfl := some_inj hm
    have hs40 : St B' w [] w36 [keepA w, blk b4 (.cells [(.int .i64 p18)].toArray 3 (0, 0)), blk D23 (.deferred (some [])), blk b7 (.cells [(.pointer (some ⟨mb, 0, none⟩))].toArray 22 (0, 0)), keepA w] := hs39.front 2 (by simp)
    have hs41 : St B' w [] w36 [blk b7 (.cells [(.pointer (some ⟨mb, 0, none⟩))].toArray 22 (0, 0)), keepA w, blk b4 (.cells [(.int .i64 p18)].toArray 3 (0, 0)), blk D23 (.deferred (some [])), keepA w] := hs40.front 3 (by simp)
    have hs42 : St B' w [] w36 [keepA w, blk b7 (.cells [(.pointer (some ⟨mb, 0, none⟩))].toArray 22 (0, 0)), blk b4 (.cells [(.int .i64 p18)].toArray 3 (0, 0)), blk D23 (.deferred (some [])), keepA w] := hs41.front 1 (by simp)
    have hs43 : St B' w [] w36 [blk b4 (.cells [(.int .i64 p18)].toArray 3 (0, 0)), keepA w, blk b7 (.cells [(.pointer (some ⟨mb, 0, none⟩))].toArray 22 (0, 0)), blk D23 (.deferred (some [])), keepA w] := hs42.front 2 (by simp)
    have hs44 : St B' w [] w36 [blk D23 (.deferred (some [])), blk b4 (.cells [(.int .i64 p18)].toArray 3 (0, 0)), keepA w, blk b7 (.cells [(.pointer (some ⟨mb, 0, none⟩))].toArray 22 (0, 0)), keepA w] := hs43.front 3 (by simp)
    refine leave_mark (D := D23) (v := (.int .i64 p18)) hs44 (by kernel_rfl) (fun w45 hs46 => (resD_one rfl (.cell (ad := ⟨b4, 0, none⟩) (by kernel_rfl) (by kernel_rfl) (hs46.cellAt 0 rfl rfl)))) (fun w45 hs46 => ?_)
    have hs47 : St B' w [] w45 [] := St.take (H := []) hs46
    exact ⟨rfl, hs47⟩
  ·
    rintro _ _ _ h_ _
    exact h_.elim
  ·
    rintro k13 hk48 rc21 l20 w49 p18 hF53 lf50 hs51 K52 hK52
    replace hF53 : rounds (fun k_ c_ s_ => mcount_R19 img l at_ many k_ c_ s_) (fun s_ => mcount_D19 s_) ((nWords many) - k13) k13 p18 = some r := hF53
    rw [rounds_at hk48] at hF53
    obtain ⟨c14, hc14⟩ : ∃ c_, c_ = rounds (fun k_ c_ s_ => mcount_R19 img l at_ many k_ c_ s_) (fun s_ => mcount_D19 s_) ((nWords many) - (k13 + 1)) (k13 + 1) := ⟨_, rfl⟩
    rw [← hc14] at hF53
    have hm : mcount_R19 img l at_ many k13 c14 p18 = some r := hF53
    clear hF53
    unfold mcount_R19 at hm
    refine W.region ?_
    refine ops_run 1 (by kernel_rfl) ?_
    obtain ⟨r54, h55, hm⟩ := bind_some hm
    replace h55 := some_inj h55
    refine ops_set 4 (v := .int .u64 r54) (Eq.trans (by kernel_rfl) (congrArg (Value.int .u64) h55)) ?_
    refine ops_done (by kernel_rfl) ?_
    refine hK52 _ _ hs51 (fun w56 hs57 => ?_)
    refine W.block ?_
    have hs58 := hs57.drew
    have hs59 : St B' w49 lf50 w56.drew [keepA w, blk l20 (.loop { rc21 with state := .busy }), blk b4 (.cells [(.int .i64 p18)].toArray 3 (0, 0))] := hs58.front 1 (by simp)
    have hs60 : St B' w49 lf50 w56.drew [blk l20 (.loop { rc21 with state := .busy }), keepA w, blk b4 (.cells [(.int .i64 p18)].toArray 3 (0, 0))] := hs59.front 1 (by simp)
    have hs61 : St B' w49 lf50 w56.drew [blk l20 (.loop { rc21 with state := .busy }), keepA w] := St.take (H := [blk l20 (.loop { rc21 with state := .busy }), keepA w]) hs60
    refine W.regionD [(0, 0), (0, 0), (2, 2), (5, 5), (15, 8)] (fun w_ => St B' w49 lf50 w_ [blk l20 (.loop { rc21 with state := .busy }), keepA w]) (by kernel_rfl) hs61 ?_
    refine any_val (v := (.int .u64 r54)) (v' := (.int .u64 r54)) 1 (by kernel_rfl) (fun _ => by kernel_rfl) rfl hs61 ?_
    refine any_step2 0 2 (by kernel_rfl) (by kernel_rfl) (by kernel_rfl) ?_ ?_
    ·
      refine ops_R (runs_load (ad := ⟨b4, 0, none⟩) (v := (.int .i64 p18)) (by kernel_rfl) (hs58.cellAt 2 rfl rfl)) ?_
      have hs62 : St B' w49 lf50 w56.drew [keepA w, blk l20 (.loop { rc21 with state := .busy }), blk b4 (.cells [(.int .i64 p18)].toArray 3 (0, 0))] := hs58.front 1 (by simp)
      have hs63 : St B' w49 lf50 w56.drew [blk l20 (.loop { rc21 with state := .busy }), keepA w, blk b4 (.cells [(.int .i64 p18)].toArray 3 (0, 0))] := hs62.front 1 (by simp)
      have hs64 : St B' w49 lf50 w56.drew [blk l20 (.loop { rc21 with state := .busy }), keepA w] := St.take (H := [blk l20 (.loop { rc21 with state := .busy }), keepA w]) hs63
      refine ops_done (by kernel_rfl) ⟨hs64, ?_⟩
      refine any_step 2 (by kernel_rfl) (by kernel_rfl) ?_
      obtain ⟨r65, h66, hm⟩ := bind_some hm
      refine ops_call (pre := []) hs58 (by kernel_rfl) (ones_walk (hm := h66) B' _) ?_
      rintro _ _ w67 ⟨rfl, rfl⟩ hs68
      have hs69 : St B' w49 lf50 w67 [blk l20 (.loop { rc21 with state := .busy }), keepA w, blk b4 (.cells [(.int .i64 p18)].toArray 3 (0, 0))] := hs68
      have hs70 : St B' w49 lf50 w67 [keepA w, blk l20 (.loop { rc21 with state := .busy }), blk b4 (.cells [(.int .i64 p18)].toArray 3 (0, 0))] := hs69.front 1 (by simp)
      have hs71 : St B' w49 lf50 w67 [blk l20 (.loop { rc21 with state := .busy }), keepA w, blk b4 (.cells [(.int .i64 p18)].toArray 3 (0, 0))] := hs70.front 1 (by simp)
      have hs72 : St B' w49 lf50 w67 [blk l20 (.loop { rc21 with state := .busy }), keepA w] := St.take (H := [blk l20 (.loop { rc21 with state := .busy }), keepA w]) hs71
      refine ops_done (by kernel_rfl) ⟨hs72, ?_⟩
      obtain ⟨h73, hm⟩ := need_some hm
      refine any_val (v := .int .i64 (IntKind.i64.wrap (p18 + r65))) (v' := .int .i64 (p18 + r65)) 3 (by kernel_rfl) (fun _ => by kernel_rfl) (congrArg (Value.int .i64) (wrap_i64 h73.1 h73.2)) hs72 ?_
      refine any_step 4 (by kernel_rfl) (by kernel_rfl) ?_
      have hs76 : St B' w49 lf50 w67 [blk b4 (.cells [(.int .i64 p18)].toArray 3 (0, 0)), blk l20 (.loop { rc21 with state := .busy }), keepA w] := hs69.front 2 (by simp)
      refine ops_store (off := 0) (cs := [(.int .i64 p18)]) (vs := [(.int .i64 (p18 + r65))]) hs76 (by kernel_rfl) (by simp) rfl (fun w74 hs75 => ?_)
      have hs77 : St B' w49 lf50 w74 [blk b4 (.cells [(.int .i64 (p18 + r65))].toArray 3 (0, 0)), blk l20 (.loop { rc21 with state := .busy }), keepA w] := hs75
      have hs78 : St B' w49 lf50 w74 [keepA w, blk b4 (.cells [(.int .i64 (p18 + r65))].toArray 3 (0, 0)), blk l20 (.loop { rc21 with state := .busy })] := hs77.front 2 (by simp)
      have hs79 : St B' w49 lf50 w74 [blk l20 (.loop { rc21 with state := .busy }), keepA w, blk b4 (.cells [(.int .i64 (p18 + r65))].toArray 3 (0, 0))] := hs78.front 2 (by simp)
      have hs80 : St B' w49 lf50 w74 [blk l20 (.loop { rc21 with state := .busy }), keepA w] := St.take (H := [blk l20 (.loop { rc21 with state := .busy }), keepA w]) hs79
      refine ops_done (by kernel_rfl) ⟨hs80, ?_⟩
      refine any_done (by kernel_rfl) ?_
      refine normal_block ?_
      have hs81 : St B' w49 lf50 w74 [keepA w, blk b4 (.cells [(.int .i64 (p18 + r65))].toArray 3 (0, 0)), blk l20 (.loop { rc21 with state := .busy })] := hs77.front 2 (by simp)
      have hs82 : St B' w49 lf50 w74 [blk l20 (.loop { rc21 with state := .busy }), keepA w, blk b4 (.cells [(.int .i64 (p18 + r65))].toArray 3 (0, 0))] := hs81.front 2 (by simp)
      rw [hc14] at hm
      exact ⟨(p18 + r65), hm, hs82⟩
    ·
      obtain ⟨r83, h84, hm⟩ := bind_some hm
      refine ops_call (pre := []) hs58 (by kernel_rfl) (ones_walk (hm := h84) B' _) ?_
      rintro _ _ w85 ⟨rfl, rfl⟩ hs86
      have hs87 : St B' w49 lf50 w85 [blk l20 (.loop { rc21 with state := .busy }), keepA w, blk b4 (.cells [(.int .i64 p18)].toArray 3 (0, 0))] := hs86
      have hs88 : St B' w49 lf50 w85 [keepA w, blk l20 (.loop { rc21 with state := .busy }), blk b4 (.cells [(.int .i64 p18)].toArray 3 (0, 0))] := hs87.front 1 (by simp)
      have hs89 : St B' w49 lf50 w85 [blk l20 (.loop { rc21 with state := .busy }), keepA w, blk b4 (.cells [(.int .i64 p18)].toArray 3 (0, 0))] := hs88.front 1 (by simp)
      have hs90 : St B' w49 lf50 w85 [blk l20 (.loop { rc21 with state := .busy }), keepA w] := St.take (H := [blk l20 (.loop { rc21 with state := .busy }), keepA w]) hs89
      refine ops_done (by kernel_rfl) ⟨hs90, ?_⟩
      refine any_step 0 (by kernel_rfl) (by kernel_rfl) ?_
      refine ops_R (runs_load (ad := ⟨b4, 0, none⟩) (v := (.int .i64 p18)) (by kernel_rfl) (hs87.cellAt 2 rfl rfl)) ?_
      have hs91 : St B' w49 lf50 w85 [keepA w, blk l20 (.loop { rc21 with state := .busy }), blk b4 (.cells [(.int .i64 p18)].toArray 3 (0, 0))] := hs87.front 1 (by simp)
      have hs92 : St B' w49 lf50 w85 [blk l20 (.loop { rc21 with state := .busy }), keepA w, blk b4 (.cells [(.int .i64 p18)].toArray 3 (0, 0))] := hs91.front 1 (by simp)
      have hs93 : St B' w49 lf50 w85 [blk l20 (.loop { rc21 with state := .busy }), keepA w] := St.take (H := [blk l20 (.loop { rc21 with state := .busy }), keepA w]) hs92
      refine ops_done (by kernel_rfl) ⟨hs93, ?_⟩
      obtain ⟨h94, hm⟩ := need_some hm
      refine any_val (v := .int .i64 (IntKind.i64.wrap (p18 + r83))) (v' := .int .i64 (p18 + r83)) 3 (by kernel_rfl) (fun _ => by kernel_rfl) (congrArg (Value.int .i64) (wrap_i64 h94.1 h94.2)) hs93 ?_
      refine any_step 4 (by kernel_rfl) (by kernel_rfl) ?_
      have hs97 : St B' w49 lf50 w85 [blk b4 (.cells [(.int .i64 p18)].toArray 3 (0, 0)), blk l20 (.loop { rc21 with state := .busy }), keepA w] := hs87.front 2 (by simp)
      refine ops_store (off := 0) (cs := [(.int .i64 p18)]) (vs := [(.int .i64 (p18 + r83))]) hs97 (by kernel_rfl) (by simp) rfl (fun w95 hs96 => ?_)
      have hs98 : St B' w49 lf50 w95 [blk b4 (.cells [(.int .i64 (p18 + r83))].toArray 3 (0, 0)), blk l20 (.loop { rc21 with state := .busy }), keepA w] := hs96
      have hs99 : St B' w49 lf50 w95 [keepA w, blk b4 (.cells [(.int .i64 (p18 + r83))].toArray 3 (0, 0)), blk l20 (.loop { rc21 with state := .busy })] := hs98.front 2 (by simp)
      have hs100 : St B' w49 lf50 w95 [blk l20 (.loop { rc21 with state := .busy }), keepA w, blk b4 (.cells [(.int .i64 (p18 + r83))].toArray 3 (0, 0))] := hs99.front 2 (by simp)
      have hs101 : St B' w49 lf50 w95 [blk l20 (.loop { rc21 with state := .busy }), keepA w] := St.take (H := [blk l20 (.loop { rc21 with state := .busy }), keepA w]) hs100
      refine ops_done (by kernel_rfl) ⟨hs101, ?_⟩
      refine any_done (by kernel_rfl) ?_
      refine normal_block ?_
      have hs102 : St B' w49 lf50 w95 [keepA w, blk b4 (.cells [(.int .i64 (p18 + r83))].toArray 3 (0, 0)), blk l20 (.loop { rc21 with state := .busy })] := hs98.front 2 (by simp)
      have hs103 : St B' w49 lf50 w95 [blk l20 (.loop { rc21 with state := .busy }), keepA w, blk b4 (.cells [(.int .i64 (p18 + r83))].toArray 3 (0, 0))] := hs102.front 2 (by simp)
      rw [hc14] at hm
      exact ⟨(p18 + r83), hm, hs103⟩

end Go.Proofs.YthimamnblklkbaaDoor
