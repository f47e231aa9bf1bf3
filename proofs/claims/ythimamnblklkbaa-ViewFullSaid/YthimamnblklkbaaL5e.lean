/- The walk of a law of layer 5, by a program. -/
import Derived.Test.YthimamnblklkbaaLf
namespace Go.Proofs.Ythimamnblklkbaa
open Go Go.RowKit

set_option maxRecDepth 20000 in
set_option maxHeartbeats 4000000 in
set_option linter.unusedVariables false in
theorem viewfull_walk {d_ x_ : Int} (B : Nat) (w : World) (hB : w.heap.size = B) (hd : 0 ≤ d_ ∧ d_ ≤ 255) : Spec Try.prog 8 #[(.int .u8 d_), (.int .u64 x_)] B w [] (fun v H' => v = .bool true ∧ H' = []) := by
  refine spec_Q Try.func8 rfl fun hs => ?_
  refine W.seq fun K1 hK1 => ?_
  refine W.region ?_
  refine ops_run 1 (by kernel_rfl) ?_
  refine ops_done (by kernel_rfl) ?_
  refine hK1 _ _ ?_
  clear hK1
  refine W.seq fun K2 hK2 => ?_
  refine W.region ?_
  refine ops_new (fun b => .slice (some ⟨b, 0, none⟩) 106 106) (.cells (kU64.cells zs106).toArray 33 (0, 0)) hs (by kernel_rfl) (fun b5 w3 hs4 => ?_)
  have hs6 : St B w [] w3 [kU64.row (some ⟨b5, 0, none⟩) 106 zs106] := St.kblk kU64 zs106 hs4 rfl rfl (by decide)
  refine ops_run 1 (by kernel_rfl) ?_
  refine ops_done (by kernel_rfl) ?_
  refine hK2 _ _ ?_
  clear hK2
  refine W.seq fun K7 hK7 => ?_
  refine W.region ?_
  refine ops_run 1 (by kernel_rfl) ?_
  refine ops_call (pre := []) hs6 (by kernel_rfl) (new_spec (hc := (St.kcells kU64 hs6 0 rfl)) (hn := (St.capnil kU64 hs6 0 rfl)) (hsz := (by decide)) B _) ?_
  rintro _ _ w9 ⟨b8, rfl, rfl⟩ hs10
  have hs11 : St B w [] w9 [viewA (ptr b8) zs106 ([]), kU64.row (some ⟨b5, 0, none⟩) 106 zs106] := hs10
  refine ops_run 1 (by kernel_rfl) ?_
  refine ops_done (by kernel_rfl) ?_
  refine hK7 _ _ ?_
  clear hK7
  refine W.seq fun K12 hK12 => ?_
  refine W.seq fun K13 hK13 => ?_
  refine W.region ?_
  refine ops_run 2 (by kernel_rfl) ?_
  refine ops_done (by kernel_rfl) ?_
  refine hK13 _ _ ?_
  clear hK13
  refine W.cond_false false (by kernel_rfl) rfl ?_
  refine W.skip ?_
  refine hK12 _ _ ?_
  clear hK12
  refine W.seq fun K14 hK14 => ?_
  refine W.region ?_
  refine ops_run 1 (by kernel_rfl) ?_
  refine ops_val (v := .int .i64 (IntKind.i64.wrap d_)) (v' := .int .i64 d_) (by kernel_rfl) (congrArg (Value.int .i64) (wrap_i64 (by omega) (by omega))) ?_
  refine ops_run 2 (by kernel_rfl) ?_
  obtain ⟨r15, hr16, hl17⟩ := rem_nat (x := d_) (y := 106) (by omega) (by omega)
  refine ops_R (v := .int .i64 (r15 : Int)) (runs_rem (k := .i64) (a := d_) (b := 106) (by kernel_rfl) (by omega) hr16) ?_
  refine ops_run 1 (by kernel_rfl) ?_
  refine ops_done (by kernel_rfl) ?_
  have hr0_ : r15 < 106 := by omega
  refine hK14 _ _ ?_
  clear hK14
  refine W.seq fun K18 hK18 => ?_
  refine W.seq fun K19 hK19 => ?_
  refine W.region ?_
  refine ops_run 1 (by kernel_rfl) ?_
  refine ops_done (by kernel_rfl) ?_
  refine hK19 _ _ ?_
  clear hK19
  refine W.block ?_
  have hf0 : full r15 x_ 0 = [] := rfl
  refine W.loop (G := Nat) (fun | k, s_, w_ => (∃ us, s_ = slots 113 [(1, (.int .u64 x_)), (5, (.slice (some ⟨b5, 0, none⟩) 106 106)), (6, (.pointer (some ⟨b8, 0, none⟩))), (7, (.int .i64 (r15 : Int))), (8, (.int .i64 (k : Int)))] us) ∧ St B w [] w_ [viewA (ptr b8) zs106 (full r15 x_ k), kU64.row (some ⟨b5, 0, none⟩) 106 zs106] ∧ (k ≤ 96)) (fun k => 96 - k) 0 ⟨slots_intro _ (by kernel_rfl), hs11, Nat.zero_le _⟩ ?_
  rintro k _ w20 ⟨⟨us, rfl⟩, hs21, hk_⟩
  refine W.seq fun K22 hK22 => ?_
  refine W.seq fun K23 hK23 => ?_
  refine W.region ?_
  refine ops_run 2 (by kernel_rfl) ?_
  refine ops_done (by kernel_rfl) ?_
  refine hK23 _ _ ?_
  clear hK23
  refine W.cond (decide ((k : Int) < 96)) (by kernel_rfl) (fun h24 => ?_) (fun h24 => ?_)
  ·
    have h24p : (k : Int) < 96 := of_decide_eq_true h24
    refine W.skip ?_
    refine hK22 _ _ ?_
    clear hK22
    refine W.seq fun K25 hK25 => ?_
    refine W.block ?_
    refine W.seq fun K26 hK26 => ?_
    refine W.region ?_
    refine ops_run 3 (by kernel_rfl) ?_
    refine ops_val (v := .int .i64 (IntKind.i64.wrap ((r15 : Int) + (k : Int)))) (v' := .int .i64 ((r15 : Int) + (k : Int))) (by kernel_rfl) (congrArg (Value.int .i64) (wrap_i64 (by omega) (by omega))) ?_
    refine ops_run 2 (by kernel_rfl) ?_
    have hrr_ : Int.tmod ((r15 : Int) + (k : Int)) 106 = (((r15 + k) % 106 : Nat) : Int) := by first | exact rem106 _ _ | (rw [Int.tmod_eq_emod_of_nonneg (by omega)]; omega)
    refine ops_R (v := .int .i64 (((r15 + k) % 106 : Nat) : Int)) (runs_rem (k := .i64) (a := ((r15 : Int) + (k : Int))) (b := 106) (by kernel_rfl) (by omega) hrr_) ?_
    refine ops_run 1 (by kernel_rfl) ?_
    refine ops_call (pre := [viewA (ptr b8) zs106 (full r15 x_ k)]) hs21 (by kernel_rfl) (put_eq (p := (.pointer (some ⟨b8, 0, none⟩))) (he := (full_step (r := r15) (k := k) (w := x_) (by omega))) B _) ?_
    rintro _ _ w27 ⟨rfl, rfl⟩ hs28
    have hs29 : St B w [] w27 [viewA (ptr b8) zs106 (full r15 x_ (k + 1)), kU64.row (some ⟨b5, 0, none⟩) 106 zs106] := hs28
    refine ops_run 1 (by kernel_rfl) ?_
    refine ops_done (by kernel_rfl) ?_
    refine hK26 _ _ ?_
    clear hK26
    refine W.cond_false false (by kernel_rfl) rfl ?_
    refine W.skip ?_
    refine normal_block ?_
    refine hK25 _ _ ?_
    clear hK25
    refine W.region ?_
    refine ops_run 1 (by kernel_rfl) ?_
    refine ops_val (v := .int .i64 (IntKind.i64.wrap ((k : Int) + 1))) (v' := .int .i64 ((k + 1 : Nat) : Int)) (by kernel_rfl) (congrArg (Value.int .i64) (wrap_i64 (by omega) (by omega))) ?_
    refine ops_run 1 (by kernel_rfl) ?_
    refine ops_done (by kernel_rfl) ?_
    exact ⟨k + 1, ⟨slots_intro _ (by kernel_rfl), hs29, by omega⟩, by first | omega | (dsimp only; omega)⟩
  ·
    have h24p : ¬ ((k : Int) < 96) := of_decide_eq_false h24
    refine W.exit (exit_seq (exit_seq (exit_here ?_)))
    refine hK18 _ _ ?_
    clear hK18
    refine W.seq fun K30 hK30 => ?_
    obtain rfl : k = 96 := by omega
    have hs31 : St B w [] w20 [viewA (ptr b8) zs106 (full r15 x_ 96), kU64.row (some ⟨b5, 0, none⟩) 106 zs106] := hs21
    refine W.region ?_
    refine ops_run 1 (by kernel_rfl) ?_
    refine ops_call (pre := []) hs31 (by kernel_rfl) (writes_spec (hv := (hs31.entAt 0 rfl viewA_at)) B _) ?_
    rintro _ _ w34 ⟨a32, c33, rfl, rfl⟩ hs35
    have hs36 : St B w [] w34 [kWr.row a32 c33 (full r15 x_ 96), viewA (ptr b8) zs106 (full r15 x_ 96), kU64.row (some ⟨b5, 0, none⟩) 106 zs106] := hs35
    refine ops_run 1 (by kernel_rfl) ?_
    refine ops_done (by kernel_rfl) ?_
    refine hK30 _ _ ?_
    clear hK30
    refine W.seq fun K37 hK37 => ?_
    refine W.region ?_
    refine ops_run 1 (by kernel_rfl) ?_
    refine ops_val (v := .int .i64 (IntKind.i64.wrap ((r15 : Int) + 96))) (v' := .int .i64 ((r15 + 96 : Nat) : Int)) (by kernel_rfl) (congrArg (Value.int .i64) (wrap_i64 (by omega) (by omega))) ?_
    refine ops_run 2 (by kernel_rfl) ?_
    have hrr_ : Int.tmod ((r15 + 96 : Nat) : Int) 106 = (((r15 + 96) % 106 : Nat) : Int) := by first | exact rem106 _ _ | (rw [Int.tmod_eq_emod_of_nonneg (by omega)]; omega)
    refine ops_R (v := .int .i64 (((r15 + 96) % 106 : Nat) : Int)) (runs_rem (k := .i64) (a := ((r15 + 96 : Nat) : Int)) (b := 106) (by kernel_rfl) (by omega) hrr_) ?_
    refine ops_run 1 (by kernel_rfl) ?_
    refine ops_done (by kernel_rfl) ?_
    refine hK37 _ _ ?_
    clear hK37
    refine W.seq fun K38 hK38 => ?_
    refine W.seq fun K39 hK39 => ?_
    have hvz : (vflat zs106 []).length = 106 := zs_len
    have hl0 := full_len r15 x_ 96
    have hl1 := full_l1 (r := r15) (w := x_) (x := ((x_ + 1) % 18446744073709551616)) hr0_
    have hx3 : ((r15 + 96) % 106) < 106 := Nat.mod_lt _ (by omega)
    refine W.region ?_
    refine ops_run 4 (by kernel_rfl) ?_
    rcases Bool.eq_false_or_eq_true (!decide ((((full r15 x_ 96).length) : Int) = 96)) with h40 | h40
    ·
      have h40p : ¬ ((((full r15 x_ 96).length) : Int) = 96) := of_decide_eq_false (bnot_true h40)
      refine ops_set 45 (v := .bool true) (eq_bool_of (by kernel_rfl) h40) ?_
      refine ops_set 44 (v := .bool true) (eq_bool_of (by kernel_rfl) h40) ?_
      refine ops_run 40 (by kernel_rfl) ?_
      refine ops_done (by kernel_rfl) ?_
      refine hK39 _ _ ?_
      clear hK39
      refine W.cond_true true (by kernel_rfl) rfl ?_
      refine W.seq fun K41 hK41 => ?_
      refine W.region ?_
      refine ops_run 1 (by kernel_rfl) ?_
      refine ops_done (by kernel_rfl) ?_
      refine hK41 _ _ ?_
      clear hK41
      refine W.ret (ret_seq ?_)
      exfalso; first | contradiction | omega
    ·
      have h40p : (((full r15 x_ 96).length) : Int) = 96 := of_decide_eq_true (bnot_false h40)
      refine ops_set 45 (v := .bool false) (eq_bool_of (by kernel_rfl) h40) ?_
      refine ops_set 44 (v := .bool false) (eq_bool_of (by kernel_rfl) h40) ?_
      refine ops_run 2 (by kernel_rfl) ?_
      have hs42 : St B w [] w34 [viewA (ptr b8) zs106 (full r15 x_ 96), kWr.row a32 c33 (full r15 x_ 96), kU64.row (some ⟨b5, 0, none⟩) 106 zs106] := hs36.front 1 (by simp)
      refine ops_call (pre := [viewA (ptr b8) zs106 (full r15 x_ 96)]) hs42 (by kernel_rfl) (put_eq (p := (.pointer (some ⟨b8, 0, none⟩))) (he := (full_p1 (r := r15) (w := x_) (x := 1))) B _) ?_
      rintro _ _ w43 ⟨rfl, rfl⟩ hs44
      have hs45 : St B w [] w43 [viewA (ptr b8) zs106 (full r15 x_ 96), kWr.row a32 c33 (full r15 x_ 96), kU64.row (some ⟨b5, 0, none⟩) 106 zs106] := hs44
      refine ops_run 5 (by kernel_rfl) ?_
      refine ops_call (pre := []) hs45 (by kernel_rfl) (get_eq (he := (full_g1 (r := r15) (w := x_))) (hv := (hs45.entAt 0 rfl viewA_at)) B _) ?_
      rintro _ _ w46 ⟨rfl, rfl⟩ hs47
      have hs48 : St B w [] w46 [viewA (ptr b8) zs106 (full r15 x_ 96), kWr.row a32 c33 (full r15 x_ 96), kU64.row (some ⟨b5, 0, none⟩) 106 zs106] := hs47
      refine ops_run 4 (by kernel_rfl) ?_
      refine ops_call (pre := []) hs48 (by kernel_rfl) (writes_spec (hv := (hs48.entAt 0 rfl viewA_at)) B _) ?_
      rintro _ _ w51 ⟨a49, c50, rfl, rfl⟩ hs52
      have hs53 : St B w [] w51 [kWr.row a49 c50 (full r15 x_ 96), viewA (ptr b8) zs106 (full r15 x_ 96), kWr.row a32 c33 (full r15 x_ 96), kU64.row (some ⟨b5, 0, none⟩) 106 zs106] := hs52
      refine ops_run 1 (by kernel_rfl) ?_
      refine ops_call (pre := []) hs53 (by kernel_rfl) (same05_spec (xs := (full r15 x_ 96)) (ys := (full r15 x_ 96)) (xc := c50) (yc := c33) (n := (full r15 x_ 96).length) (m := (full r15 x_ 96).length) (hn := rfl) (hm := rfl) (hx := (St.kcells kWr hs53 0 rfl)) (hy := (St.kcells kWr hs53 2 rfl)) (hsz := (by omega)) B _) ?_
      rintro _ _ w54 ⟨rfl, rfl⟩ hs55
      have hs56 : St B w [] w54 [kWr.row a49 c50 (full r15 x_ 96), viewA (ptr b8) zs106 (full r15 x_ 96), kWr.row a32 c33 (full r15 x_ 96), kU64.row (some ⟨b5, 0, none⟩) 106 zs106] := hs55
      refine ops_run 3 (by kernel_rfl) ?_
      rcases Bool.eq_false_or_eq_true (!(decide ((full r15 x_ 96) = (full r15 x_ 96)))) with h57 | h57
      ·
        have h57p : ¬ ((full r15 x_ 96) = (full r15 x_ 96)) := of_decide_eq_false (bnot_true h57)
        refine ops_set 64 (v := .bool true) (eq_bool_of (by kernel_rfl) h57) ?_
        refine ops_set 62 (v := .bool true) (eq_bool_of (by kernel_rfl) h57) ?_
        refine ops_set 63 (v := .bool true) (eq_bool_of (by kernel_rfl) h57) ?_
        refine ops_run 21 (by kernel_rfl) ?_
        refine ops_done (by kernel_rfl) ?_
        refine hK39 _ _ ?_
        clear hK39
        refine W.cond_true true (by kernel_rfl) rfl ?_
        refine W.seq fun K58 hK58 => ?_
        refine W.region ?_
        refine ops_run 1 (by kernel_rfl) ?_
        refine ops_done (by kernel_rfl) ?_
        refine hK58 _ _ ?_
        clear hK58
        refine W.ret (ret_seq ?_)
        exfalso; first | contradiction | omega
      ·
        have h57p : (full r15 x_ 96) = (full r15 x_ 96) := of_decide_eq_true (bnot_false h57)
        refine ops_set 64 (v := .bool false) (eq_bool_of (by kernel_rfl) h57) ?_
        refine ops_set 62 (v := .bool false) (eq_bool_of (by kernel_rfl) h57) ?_
        refine ops_set 63 (v := .bool false) (eq_bool_of (by kernel_rfl) h57) ?_
        refine ops_run 3 (by kernel_rfl) ?_
        refine ops_val (v := .int .u64 (IntKind.u64.wrap (x_ + 1))) (v' := .int .u64 ((x_ + 1) % 18446744073709551616)) (by kernel_rfl) (congrArg (Value.int .u64) (wrap_u64_mod _)) ?_
        have hs59 : St B w [] w54 [viewA (ptr b8) zs106 (full r15 x_ 96), kWr.row a49 c50 (full r15 x_ 96), kWr.row a32 c33 (full r15 x_ 96), kU64.row (some ⟨b5, 0, none⟩) 106 zs106] := hs56.front 1 (by simp)
        refine ops_call (pre := [viewA (ptr b8) zs106 (full r15 x_ 96)]) hs59 (by kernel_rfl) (put_eq (p := (.pointer (some ⟨b8, 0, none⟩))) (he := (full_p2 (r := r15) (w := x_) (x := ((x_ + 1) % 18446744073709551616)) hr0_)) B _) ?_
        rintro _ _ w60 ⟨rfl, rfl⟩ hs61
        have hs62 : St B w [] w60 [viewA (ptr b8) zs106 (vset (full r15 x_ 96) (r15 : Int) ((x_ + 1) % 18446744073709551616)), kWr.row a49 c50 (full r15 x_ 96), kWr.row a32 c33 (full r15 x_ 96), kU64.row (some ⟨b5, 0, none⟩) 106 zs106] := hs61
        refine ops_run 5 (by kernel_rfl) ?_
        refine ops_call (pre := []) hs62 (by kernel_rfl) (get_eq (he := (full_g2 (r := r15) (w := x_) (x := ((x_ + 1) % 18446744073709551616)) hr0_)) (hv := (hs62.entAt 0 rfl viewA_at)) B _) ?_
        rintro _ _ w63 ⟨rfl, rfl⟩ hs64
        have hs65 : St B w [] w63 [viewA (ptr b8) zs106 (vset (full r15 x_ 96) (r15 : Int) ((x_ + 1) % 18446744073709551616)), kWr.row a49 c50 (full r15 x_ 96), kWr.row a32 c33 (full r15 x_ 96), kU64.row (some ⟨b5, 0, none⟩) 106 zs106] := hs64
        refine ops_run 1 (by kernel_rfl) ?_
        refine ops_val (v := .int .u64 (IntKind.u64.wrap (x_ + 1))) (v' := .int .u64 ((x_ + 1) % 18446744073709551616)) (by kernel_rfl) (congrArg (Value.int .u64) (wrap_u64_mod _)) ?_
        refine ops_run 3 (by kernel_rfl) ?_
        rcases Bool.eq_false_or_eq_true (!decide (((x_ + 1) % 18446744073709551616) = ((x_ + 1) % 18446744073709551616))) with h66 | h66
        ·
          have h66p : ¬ (((x_ + 1) % 18446744073709551616) = ((x_ + 1) % 18446744073709551616)) := of_decide_eq_false (bnot_true h66)
          refine ops_set 80 (v := .bool true) (eq_bool_of (by kernel_rfl) h66) ?_
          refine ops_set 78 (v := .bool true) (eq_bool_of (by kernel_rfl) h66) ?_
          refine ops_set 79 (v := .bool true) (eq_bool_of (by kernel_rfl) h66) ?_
          refine ops_run 5 (by kernel_rfl) ?_
          refine ops_done (by kernel_rfl) ?_
          refine hK39 _ _ ?_
          clear hK39
          refine W.cond_true true (by kernel_rfl) rfl ?_
          refine W.seq fun K67 hK67 => ?_
          refine W.region ?_
          refine ops_run 1 (by kernel_rfl) ?_
          refine ops_done (by kernel_rfl) ?_
          refine hK67 _ _ ?_
          clear hK67
          refine W.ret (ret_seq ?_)
          exfalso; first | contradiction | omega
        ·
          have h66p : ((x_ + 1) % 18446744073709551616) = ((x_ + 1) % 18446744073709551616) := of_decide_eq_true (bnot_false h66)
          refine ops_set 80 (v := .bool false) (eq_bool_of (by kernel_rfl) h66) ?_
          refine ops_set 78 (v := .bool false) (eq_bool_of (by kernel_rfl) h66) ?_
          refine ops_set 79 (v := .bool false) (eq_bool_of (by kernel_rfl) h66) ?_
          refine ops_run 1 (by kernel_rfl) ?_
          refine ops_call (pre := []) hs65 (by kernel_rfl) (writes_spec (hv := (hs65.entAt 0 rfl viewA_at)) B _) ?_
          rintro _ _ w70 ⟨a68, c69, rfl, rfl⟩ hs71
          have hs72 : St B w [] w70 [kWr.row a68 c69 (vset (full r15 x_ 96) (r15 : Int) ((x_ + 1) % 18446744073709551616)), viewA (ptr b8) zs106 (vset (full r15 x_ 96) (r15 : Int) ((x_ + 1) % 18446744073709551616)), kWr.row a49 c50 (full r15 x_ 96), kWr.row a32 c33 (full r15 x_ 96), kU64.row (some ⟨b5, 0, none⟩) 106 zs106] := hs71
          refine ops_run 3 (by kernel_rfl) ?_
          refine ops_done (by kernel_rfl) ?_
          refine hK39 _ _ ?_
          clear hK39
          refine W.cond (!decide ((((vset (full r15 x_ 96) (r15 : Int) ((x_ + 1) % 18446744073709551616)).length) : Int) = 96)) (by kernel_rfl) (fun h73 => ?_) (fun h73 => ?_)
          ·
            have h73p : ¬ ((((vset (full r15 x_ 96) (r15 : Int) ((x_ + 1) % 18446744073709551616)).length) : Int) = 96) := of_decide_eq_false (bnot_true h73)
            refine W.seq fun K74 hK74 => ?_
            refine W.region ?_
            refine ops_run 1 (by kernel_rfl) ?_
            refine ops_done (by kernel_rfl) ?_
            refine hK74 _ _ ?_
            clear hK74
            refine W.ret (ret_seq ?_)
            exfalso; first | contradiction | omega
          ·
            have h73p : (((vset (full r15 x_ 96) (r15 : Int) ((x_ + 1) % 18446744073709551616)).length) : Int) = 96 := of_decide_eq_true (bnot_false h73)
            refine W.skip ?_
            refine hK38 _ _ ?_
            clear hK38
            refine W.seq fun K75 hK75 => ?_
            refine W.region ?_
            refine ops_run 1 (by kernel_rfl) ?_
            have hs76 : St B w [] w70 [viewA (ptr b8) zs106 (vset (full r15 x_ 96) (r15 : Int) ((x_ + 1) % 18446744073709551616)), kWr.row a68 c69 (vset (full r15 x_ 96) (r15 : Int) ((x_ + 1) % 18446744073709551616)), kWr.row a49 c50 (full r15 x_ 96), kWr.row a32 c33 (full r15 x_ 96), kU64.row (some ⟨b5, 0, none⟩) 106 zs106] := hs72.front 1 (by simp)
            refine ops_call (pre := [viewA (ptr b8) zs106 (vset (full r15 x_ 96) (r15 : Int) ((x_ + 1) % 18446744073709551616))]) hs76 (by kernel_rfl) (drop_spec (p := (.pointer (some ⟨b8, 0, none⟩))) (img := zs106) (l := (vset (full r15 x_ 96) (r15 : Int) ((x_ + 1) % 18446744073709551616))) B _) ?_
            rintro _ _ w77 ⟨rfl, rfl⟩ hs78
            have hs79 : St B w [] w77 [viewA (ptr b8) zs106 ([]), kWr.row a68 c69 (vset (full r15 x_ 96) (r15 : Int) ((x_ + 1) % 18446744073709551616)), kWr.row a49 c50 (full r15 x_ 96), kWr.row a32 c33 (full r15 x_ 96), kU64.row (some ⟨b5, 0, none⟩) 106 zs106] := hs78
            refine ops_done (by kernel_rfl) ?_
            refine hK75 _ _ ?_
            clear hK75
            refine W.seq fun K80 hK80 => ?_
            refine W.region ?_
            refine ops_run 1 (by kernel_rfl) ?_
            refine ops_call (pre := []) hs79 (by kernel_rfl) (writes_spec (hv := (hs79.entAt 0 rfl viewA_at)) B _) ?_
            rintro _ _ w83 ⟨a81, c82, rfl, rfl⟩ hs84
            have hs85 : St B w [] w83 [kWr.row a81 c82 ([]), viewA (ptr b8) zs106 ([]), kWr.row a68 c69 (vset (full r15 x_ 96) (r15 : Int) ((x_ + 1) % 18446744073709551616)), kWr.row a49 c50 (full r15 x_ 96), kWr.row a32 c33 (full r15 x_ 96), kU64.row (some ⟨b5, 0, none⟩) 106 zs106] := hs84
            refine ops_run 4 (by kernel_rfl) ?_
            refine ops_call (pre := []) hs85 (by kernel_rfl) (flat_spec (hv := (hs85.entAt 1 rfl viewA_at)) B _) ?_
            rintro _ _ w88 ⟨a86, c87, rfl, rfl⟩ hs89
            have hs90 : St B w [] w88 [kU64.row a86 c87 (vflat zs106 ([])), kWr.row a81 c82 ([]), viewA (ptr b8) zs106 ([]), kWr.row a68 c69 (vset (full r15 x_ 96) (r15 : Int) ((x_ + 1) % 18446744073709551616)), kWr.row a49 c50 (full r15 x_ 96), kWr.row a32 c33 (full r15 x_ 96), kU64.row (some ⟨b5, 0, none⟩) 106 zs106] := hs89
            refine ops_run 1 (by kernel_rfl) ?_
            refine ops_call (pre := []) hs90 (by kernel_rfl) (same03_spec (xs := (vflat zs106 ([]))) (ys := zs106) (xc := c87) (yc := 106) (n := (vflat zs106 ([])).length) (m := 106) (hn := rfl) (hm := rfl) (hx := (St.kcells kU64 hs90 0 rfl)) (hy := (St.kcells kU64 hs90 6 rfl)) (hsz := (by omega)) B _) ?_
            rintro _ _ w91 ⟨rfl, rfl⟩ hs92
            have hs93 : St B w [] w91 [kU64.row a86 c87 (vflat zs106 ([])), kWr.row a81 c82 ([]), viewA (ptr b8) zs106 ([]), kWr.row a68 c69 (vset (full r15 x_ 96) (r15 : Int) ((x_ + 1) % 18446744073709551616)), kWr.row a49 c50 (full r15 x_ 96), kWr.row a32 c33 (full r15 x_ 96), kU64.row (some ⟨b5, 0, none⟩) 106 zs106] := hs92
            refine ops_run 2 (by kernel_rfl) ?_
            rcases Bool.eq_false_or_eq_true (decide ((vflat zs106 ([])) = zs106)) with h94 | h94
            ·
              have h94p : (vflat zs106 ([])) = zs106 := of_decide_eq_true h94
              refine ops_set 98 (v := .bool true) (eq_bool_of (by kernel_rfl) h94) ?_
              refine ops_set 96 (v := .bool true) (eq_bool_of (by kernel_rfl) h94) ?_
              refine ops_set 97 (v := .bool true) (eq_bool_of (by kernel_rfl) h94) ?_
              refine ops_run 2 (by kernel_rfl) ?_
              have hs95 : St B w [] w91 [viewA (ptr b8) zs106 ([]), kU64.row a86 c87 (vflat zs106 ([])), kWr.row a81 c82 ([]), kWr.row a68 c69 (vset (full r15 x_ 96) (r15 : Int) ((x_ + 1) % 18446744073709551616)), kWr.row a49 c50 (full r15 x_ 96), kWr.row a32 c33 (full r15 x_ 96), kU64.row (some ⟨b5, 0, none⟩) 106 zs106] := hs93.front 2 (by simp)
              refine ops_call (pre := [viewA (ptr b8) zs106 ([])]) hs95 (by kernel_rfl) (put_eq (p := (.pointer (some ⟨b8, 0, none⟩))) (he := (full_p3 (r := ((r15 + 96) % 106)) (x := 1) (by omega))) B _) ?_
              rintro _ _ w96 ⟨rfl, rfl⟩ hs97
              have hs98 : St B w [] w96 [viewA (ptr b8) zs106 ([((((r15 + 96) % 106) : Int), 1)]), kU64.row a86 c87 (vflat zs106 ([])), kWr.row a81 c82 ([]), kWr.row a68 c69 (vset (full r15 x_ 96) (r15 : Int) ((x_ + 1) % 18446744073709551616)), kWr.row a49 c50 (full r15 x_ 96), kWr.row a32 c33 (full r15 x_ 96), kU64.row (some ⟨b5, 0, none⟩) 106 zs106] := hs97
              refine ops_run 5 (by kernel_rfl) ?_
              refine ops_call (pre := []) hs98 (by kernel_rfl) (get_eq (he := (full_g3 (r := ((r15 + 96) % 106)) (x := 1) (by omega))) (hv := (hs98.entAt 0 rfl viewA_at)) B _) ?_
              rintro _ _ w99 ⟨rfl, rfl⟩ hs100
              have hs101 : St B w [] w99 [viewA (ptr b8) zs106 ([((((r15 + 96) % 106) : Int), 1)]), kU64.row a86 c87 (vflat zs106 ([])), kWr.row a81 c82 ([]), kWr.row a68 c69 (vset (full r15 x_ 96) (r15 : Int) ((x_ + 1) % 18446744073709551616)), kWr.row a49 c50 (full r15 x_ 96), kWr.row a32 c33 (full r15 x_ 96), kU64.row (some ⟨b5, 0, none⟩) 106 zs106] := hs100
              refine ops_run 3 (by kernel_rfl) ?_
              refine ops_call (pre := []) hs101 (by kernel_rfl) (works5_spec B _) ?_
              rintro _ _ w102 ⟨rfl, rfl⟩ hs103
              have hs104 : St B w [] w102 [viewA (ptr b8) zs106 ([((((r15 + 96) % 106) : Int), 1)]), kU64.row a86 c87 (vflat zs106 ([])), kWr.row a81 c82 ([]), kWr.row a68 c69 (vset (full r15 x_ 96) (r15 : Int) ((x_ + 1) % 18446744073709551616)), kWr.row a49 c50 (full r15 x_ 96), kWr.row a32 c33 (full r15 x_ 96), kU64.row (some ⟨b5, 0, none⟩) 106 zs106] := hs103
              refine ops_run 2 (by kernel_rfl) ?_
              refine ops_done (by kernel_rfl) ?_
              refine hK80 _ _ ?_
              clear hK80
              refine W.ret ?_
              have hs105 : St B w [] w102 [] := St.take (H := []) hs104
              refine ret_of (.bool true) (by kernel_rfl) ⟨_, ⟨rfl, rfl⟩, hs105⟩
            ·
              have h94p : ¬ ((vflat zs106 ([])) = zs106) := of_decide_eq_false h94
              refine ops_set 98 (v := .bool false) (eq_bool_of (by kernel_rfl) h94) ?_
              refine ops_set 96 (v := .bool false) (eq_bool_of (by kernel_rfl) h94) ?_
              refine ops_set 97 (v := .bool false) (eq_bool_of (by kernel_rfl) h94) ?_
              refine ops_run 15 (by kernel_rfl) ?_
              refine ops_done (by kernel_rfl) ?_
              refine hK80 _ _ ?_
              clear hK80
              refine W.ret ?_
              exfalso; first | contradiction | omega

end Go.Proofs.Ythimamnblklkbaa
