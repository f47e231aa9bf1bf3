/- What the code computes, by a program. -/
import Derived.Test.YthimamnblklkbaaK12
namespace Go.Proofs.Ythimamnblklkbaa
open Go Go.RowKit
set_option linter.unusedSimpArgs false
set_option linter.unusedVariables false

def inoderight_J1 (i_ : Int) (b_ : Int) (p45 : Int) (p46 : Int) (p47 : Int) (p48 : Int) (p49 : Int) (p50 : Int) (p51 : Int) (p52 : Int) (p53 : Int) (p54 : Int) : Option (Bool) :=
  if RightP 1 (2 + i_ % 20) (2 + b_ % 60) ⟨p45, p46, p47, p48, p49, p50, p51, p52, p53, p54⟩ then (some false) else (some true)

def inoderight_M (i_ : Int) (b_ : Int) (x_ : Nd) (wh_ : Int) (mo_ : Int) : Option (Bool) :=
  need (0 ≤ i_ ∧ i_ ≤ 255) <|
need (0 ≤ b_ ∧ b_ ≤ 255) <|
if RightP 1 (2 + i_ % 20) (2 + b_ % 60) ⟨x_.k, x_.l, x_.o, x_.s, x_.a, x_.b, x_.c, x_.d, x_.e, x_.m⟩ then (if RightP 4 64 512 ⟨x_.k, x_.l, x_.o, x_.s, x_.a, x_.b, x_.c, x_.d, x_.e, x_.m⟩ then (if RightP 0 0 0 ⟨x_.k, x_.l, x_.o, x_.s, x_.a, x_.b, x_.c, x_.d, x_.e, x_.m⟩ then (some false) else ((some (mo_.tmod 4611686018427387904)).bind fun r43 =>
if wh_.tmod 7 = 0 then (inoderight_J1 i_ b_ ((3 + r43) % 18446744073709551616) x_.l x_.o x_.s x_.a x_.b x_.c x_.d x_.e x_.m) else (if wh_.tmod 7 = 1 then (inoderight_J1 i_ b_ x_.k ((65537 + r43) % 18446744073709551616) x_.o x_.s x_.a x_.b x_.c x_.d x_.e x_.m) else (if wh_.tmod 7 = 2 then (inoderight_J1 i_ b_ x_.k x_.l ((17 + r43) % 18446744073709551616) x_.s x_.a x_.b x_.c x_.d x_.e x_.m) else (if wh_.tmod 7 = 3 then (inoderight_J1 i_ b_ x_.k x_.l x_.o ((769 + r43) % 18446744073709551616) x_.a x_.b x_.c x_.d x_.e x_.m) else (if wh_.tmod 7 = 4 then (need (0 ≤ (2 + b_ % 60) ∧ (2 + b_ % 60) ≤ 18446744073709551615) <|
if r43.tmod 4 = 0 then (inoderight_J1 i_ b_ x_.k x_.l x_.o x_.s (((2 + b_ % 60) + r43) % 18446744073709551616) x_.b x_.c x_.d x_.e x_.m) else (if r43.tmod 4 = 1 then (inoderight_J1 i_ b_ x_.k x_.l x_.o x_.s x_.a (((2 + b_ % 60) + r43) % 18446744073709551616) x_.c x_.d x_.e x_.m) else (if r43.tmod 4 = 2 then (inoderight_J1 i_ b_ x_.k x_.l x_.o x_.s x_.a x_.b (((2 + b_ % 60) + r43) % 18446744073709551616) x_.d x_.e x_.m) else (if r43.tmod 4 = 3 then (inoderight_J1 i_ b_ x_.k x_.l x_.o x_.s x_.a x_.b x_.c (((2 + b_ % 60) + r43) % 18446744073709551616) x_.e x_.m) else (none))))) else (if wh_.tmod 7 = 5 then (need (0 ≤ (2 + b_ % 60) ∧ (2 + b_ % 60) ≤ 18446744073709551615) <|
inoderight_J1 i_ b_ x_.k x_.l x_.o x_.s x_.a x_.b x_.c x_.d (((2 + b_ % 60) + r43) % 18446744073709551616) x_.m) else (need (0 ≤ (2 + i_ % 20) ∧ (2 + i_ % 20) ≤ 18446744073709551615) <|
inoderight_J1 i_ b_ x_.k x_.l x_.o x_.s x_.a x_.b x_.c x_.d x_.e (((2 + i_ % 20) + r43) % 18446744073709551616))))))))) else (some false)) else (if RightP 9 3 3 ⟨x_.k, x_.l, x_.o, x_.s, x_.a, x_.b, x_.c, x_.d, x_.e, x_.m⟩ then (some false) else (some true))

set_option maxRecDepth 20000 in
set_option maxHeartbeats 4000000 in
set_option linter.unusedVariables false in
theorem inoderight_walk {i_ : Int} {b_ : Int} {x_ : Nd} {wh_ : Int} {mo_ : Int}   (B : Nat) (w : World) (hB : w.heap.size = B) (hm : inoderight_M i_ b_ x_ wh_ mo_ = some true) : Spec Try.prog 9 #[(.int .u8 i_), (.int .u8 b_), (.agg #[(.int .u64 x_.k), (.int .u64 x_.l), (.int .u64 x_.o), (.int .u64 x_.s), (.int .u64 x_.a), (.int .u64 x_.b), (.int .u64 x_.c), (.int .u64 x_.d), (.int .u64 x_.e), (.int .u64 x_.m)]), (.int .u8 wh_), (.int .u64 mo_)] B w [] (fun v H' => v = .bool true ∧ H' = []) := by
  refine spec_Q Try.func9 rfl fun hs => ?_
  unfold inoderight_M at hm
  refine W.seq fun K1 hK1 => ?_
  refine W.region ?_
  refine ops_new (fun b => .pointer (some ⟨b, 0, none⟩)) (.cells [(.int .u64 x_.k), (.int .u64 x_.l), (.int .u64 x_.o), (.int .u64 x_.s), (.int .u64 x_.a), (.int .u64 x_.b), (.int .u64 x_.c), (.int .u64 x_.d), (.int .u64 x_.e), (.int .u64 x_.m)].toArray 54 (0, 0)) hs (by kernel_rfl) (fun b4 w2 hs3 => ?_)
  refine ops_run 1 (by kernel_rfl) ?_
  refine ops_done (by kernel_rfl) ?_
  refine hK1 _ _ ?_
  clear hK1
  refine W.seq fun K5 hK5 => ?_
  refine W.region ?_
  refine ops_run 2 (by kernel_rfl) ?_
  obtain ⟨h6, hm⟩ := need_some hm
  obtain ⟨h7, hm⟩ := need_some hm
  refine ops_call (pre := []) hs3 (by kernel_rfl) (small_spec (x_ := i_) (y_ := b_) (hx := h6) (hy := h7) B _) ?_
  rintro _ _ w8 ⟨rfl, rfl⟩ hs9
  have hs10 : St B w [] w8 [blk b4 (.cells [(.int .u64 x_.k), (.int .u64 x_.l), (.int .u64 x_.o), (.int .u64 x_.s), (.int .u64 x_.a), (.int .u64 x_.b), (.int .u64 x_.c), (.int .u64 x_.d), (.int .u64 x_.e), (.int .u64 x_.m)].toArray 54 (0, 0))] := hs9
  refine ops_new (fun b => .pointer (some ⟨b, 0, none⟩)) (.cells [(.int .i64 0), (.int .i64 0), (.int .i64 0)].toArray 56 (0, 0)) hs10 (by kernel_rfl) (fun b13 w11 hs12 => ?_)
  refine ops_store (off := 0) (cs := [(.int .i64 0), (.int .i64 0), (.int .i64 0)]) (vs := [(.int .i64 1), (.int .i64 (2 + i_ % 20)), (.int .i64 (2 + b_ % 60))]) hs12 (by kernel_rfl) (by simp) rfl (fun w14 hs15 => ?_)
  have hs16 : St B w [] w14 [blk b13 (.cells [(.int .i64 1), (.int .i64 (2 + i_ % 20)), (.int .i64 (2 + b_ % 60))].toArray 56 (0, 0)), blk b4 (.cells [(.int .u64 x_.k), (.int .u64 x_.l), (.int .u64 x_.o), (.int .u64 x_.s), (.int .u64 x_.a), (.int .u64 x_.b), (.int .u64 x_.c), (.int .u64 x_.d), (.int .u64 x_.e), (.int .u64 x_.m)].toArray 54 (0, 0))] := hs15
  refine ops_done (by kernel_rfl) ?_
  refine hK5 _ _ ?_
  clear hK5
  refine W.seq fun K17 hK17 => ?_
  refine W.seq fun K18 hK18 => ?_
  refine W.region ?_
  refine ops_R (runs_loadAgg (ad := ⟨b13, 0, none⟩) (cs := [(.int .i64 1), (.int .i64 (2 + i_ % 20)), (.int .i64 (2 + b_ % 60))]) (by kernel_rfl) (cells_sub (hs16.heapAt 0 rfl) rfl)) ?_
  refine ops_R (runs_loadAgg (ad := ⟨b4, 0, none⟩) (cs := [(.int .u64 x_.k), (.int .u64 x_.l), (.int .u64 x_.o), (.int .u64 x_.s), (.int .u64 x_.a), (.int .u64 x_.b), (.int .u64 x_.c), (.int .u64 x_.d), (.int .u64 x_.e), (.int .u64 x_.m)]) (by kernel_rfl) (cells_sub (hs16.heapAt 1 rfl) rfl)) ?_
  refine ops_call (pre := []) hs16 (by kernel_rfl) (right_spec (gw := 1) (gi := (2 + i_ % 20)) (gb := (2 + b_ % 60)) (x_ := ⟨x_.k, x_.l, x_.o, x_.s, x_.a, x_.b, x_.c, x_.d, x_.e, x_.m⟩) B _) ?_
  rintro _ _ w19 ⟨rfl, rfl⟩ hs20
  have hs21 : St B w [] w19 [blk b13 (.cells [(.int .i64 1), (.int .i64 (2 + i_ % 20)), (.int .i64 (2 + b_ % 60))].toArray 56 (0, 0)), blk b4 (.cells [(.int .u64 x_.k), (.int .u64 x_.l), (.int .u64 x_.o), (.int .u64 x_.s), (.int .u64 x_.a), (.int .u64 x_.b), (.int .u64 x_.c), (.int .u64 x_.d), (.int .u64 x_.e), (.int .u64 x_.m)].toArray 54 (0, 0))] := hs20
  refine ops_run 1 (by kernel_rfl) ?_
  refine ops_done (by kernel_rfl) ?_
  refine hK18 _ _ ?_
  clear hK18
  refine W.cond (!(decide (RightP 1 (2 + i_ % 20) (2 + b_ % 60) ⟨x_.k, x_.l, x_.o, x_.s, x_.a, x_.b, x_.c, x_.d, x_.e, x_.m⟩))) (by kernel_rfl) (fun h22 => ?_) (fun h22 => ?_)
  rotate_left
  ·
    have h22p : RightP 1 (2 + i_ % 20) (2 + b_ % 60) ⟨x_.k, x_.l, x_.o, x_.s, x_.a, x_.b, x_.c, x_.d, x_.e, x_.m⟩ := of_decide_eq_true (bnot_false h22)
    replace hm := ite_yes hm h22p
    refine W.skip ?_
    refine hK17 _ _ ?_
    clear hK17
    refine W.seq fun K23 hK23 => ?_
    refine W.region ?_
    refine ops_run 1 (by kernel_rfl) ?_
    refine ops_new (fun b => .pointer (some ⟨b, 0, none⟩)) (.cells [(.int .i64 0), (.int .i64 0), (.int .i64 0)].toArray 56 (0, 0)) hs21 (by kernel_rfl) (fun b26 w24 hs25 => ?_)
    refine ops_store (off := 0) (cs := [(.int .i64 0), (.int .i64 0), (.int .i64 0)]) (vs := [(.int .i64 4), (.int .i64 64), (.int .i64 512)]) hs25 (by kernel_rfl) (by simp) rfl (fun w27 hs28 => ?_)
    have hs29 : St B w [] w27 [blk b26 (.cells [(.int .i64 4), (.int .i64 64), (.int .i64 512)].toArray 56 (0, 0)), blk b13 (.cells [(.int .i64 1), (.int .i64 (2 + i_ % 20)), (.int .i64 (2 + b_ % 60))].toArray 56 (0, 0)), blk b4 (.cells [(.int .u64 x_.k), (.int .u64 x_.l), (.int .u64 x_.o), (.int .u64 x_.s), (.int .u64 x_.a), (.int .u64 x_.b), (.int .u64 x_.c), (.int .u64 x_.d), (.int .u64 x_.e), (.int .u64 x_.m)].toArray 54 (0, 0))] := hs28
    refine ops_done (by kernel_rfl) ?_
    refine hK23 _ _ ?_
    clear hK23
    refine W.seq fun K30 hK30 => ?_
    refine W.seq fun K31 hK31 => ?_
    refine W.region ?_
    refine ops_R (runs_loadAgg (ad := ⟨b26, 0, none⟩) (cs := [(.int .i64 4), (.int .i64 64), (.int .i64 512)]) (by kernel_rfl) (cells_sub (hs29.heapAt 0 rfl) rfl)) ?_
    refine ops_R (runs_loadAgg (ad := ⟨b4, 0, none⟩) (cs := [(.int .u64 x_.k), (.int .u64 x_.l), (.int .u64 x_.o), (.int .u64 x_.s), (.int .u64 x_.a), (.int .u64 x_.b), (.int .u64 x_.c), (.int .u64 x_.d), (.int .u64 x_.e), (.int .u64 x_.m)]) (by kernel_rfl) (cells_sub (hs29.heapAt 2 rfl) rfl)) ?_
    refine ops_call (pre := []) hs29 (by kernel_rfl) (right_spec (gw := 4) (gi := 64) (gb := 512) (x_ := ⟨x_.k, x_.l, x_.o, x_.s, x_.a, x_.b, x_.c, x_.d, x_.e, x_.m⟩) B _) ?_
    rintro _ _ w32 ⟨rfl, rfl⟩ hs33
    have hs34 : St B w [] w32 [blk b26 (.cells [(.int .i64 4), (.int .i64 64), (.int .i64 512)].toArray 56 (0, 0)), blk b13 (.cells [(.int .i64 1), (.int .i64 (2 + i_ % 20)), (.int .i64 (2 + b_ % 60))].toArray 56 (0, 0)), blk b4 (.cells [(.int .u64 x_.k), (.int .u64 x_.l), (.int .u64 x_.o), (.int .u64 x_.s), (.int .u64 x_.a), (.int .u64 x_.b), (.int .u64 x_.c), (.int .u64 x_.d), (.int .u64 x_.e), (.int .u64 x_.m)].toArray 54 (0, 0))] := hs33
    refine ops_run 2 (by kernel_rfl) ?_
    rcases Bool.eq_false_or_eq_true (!(decide (RightP 4 64 512 ⟨x_.k, x_.l, x_.o, x_.s, x_.a, x_.b, x_.c, x_.d, x_.e, x_.m⟩))) with h35 | h35
    rotate_left
    ·
      have h35p : RightP 4 64 512 ⟨x_.k, x_.l, x_.o, x_.s, x_.a, x_.b, x_.c, x_.d, x_.e, x_.m⟩ := of_decide_eq_true (bnot_false h35)
      replace hm := ite_yes hm h35p
      refine ops_set 32 (v := .bool false) (eq_bool_of (by kernel_rfl) h35) ?_
      refine ops_set 31 (v := .bool false) (eq_bool_of (by kernel_rfl) h35) ?_
      refine ops_run 1 (by kernel_rfl) ?_
      refine ops_R (runs_loadAgg (ad := ⟨b4, 0, none⟩) (cs := [(.int .u64 x_.k), (.int .u64 x_.l), (.int .u64 x_.o), (.int .u64 x_.s), (.int .u64 x_.a), (.int .u64 x_.b), (.int .u64 x_.c), (.int .u64 x_.d), (.int .u64 x_.e), (.int .u64 x_.m)]) (by kernel_rfl) (cells_sub (hs34.heapAt 2 rfl) rfl)) ?_
      refine ops_call (pre := []) hs34 (by kernel_rfl) (right_spec (gw := 0) (gi := 0) (gb := 0) (x_ := ⟨x_.k, x_.l, x_.o, x_.s, x_.a, x_.b, x_.c, x_.d, x_.e, x_.m⟩) B _) ?_
      rintro _ _ w36 ⟨rfl, rfl⟩ hs37
      have hs38 : St B w [] w36 [blk b26 (.cells [(.int .i64 4), (.int .i64 64), (.int .i64 512)].toArray 56 (0, 0)), blk b13 (.cells [(.int .i64 1), (.int .i64 (2 + i_ % 20)), (.int .i64 (2 + b_ % 60))].toArray 56 (0, 0)), blk b4 (.cells [(.int .u64 x_.k), (.int .u64 x_.l), (.int .u64 x_.o), (.int .u64 x_.s), (.int .u64 x_.a), (.int .u64 x_.b), (.int .u64 x_.c), (.int .u64 x_.d), (.int .u64 x_.e), (.int .u64 x_.m)].toArray 54 (0, 0))] := hs37
      refine ops_run 1 (by kernel_rfl) ?_
      refine ops_done (by kernel_rfl) ?_
      refine hK31 _ _ ?_
      clear hK31
      refine W.cond (decide (RightP 0 0 0 ⟨x_.k, x_.l, x_.o, x_.s, x_.a, x_.b, x_.c, x_.d, x_.e, x_.m⟩)) (by kernel_rfl) (fun h39 => ?_) (fun h39 => ?_)
      ·
        have h39p : RightP 0 0 0 ⟨x_.k, x_.l, x_.o, x_.s, x_.a, x_.b, x_.c, x_.d, x_.e, x_.m⟩ := of_decide_eq_true h39
        replace hm := ite_yes hm h39p
        refine W.seq fun K40 hK40 => ?_
        refine W.region ?_
        refine ops_run 1 (by kernel_rfl) ?_
        refine ops_done (by kernel_rfl) ?_
        refine hK40 _ _ ?_
        clear hK40
        refine W.ret (ret_seq ?_)
        have hs41 : St B w [] w36 [] := St.take (H := []) hs38
        refine ret_of (.bool false) (by kernel_rfl) ⟨_, ⟨congrArg Value.bool (some_inj hm), rfl⟩, hs41⟩
      ·
        have h39p : ¬ (RightP 0 0 0 ⟨x_.k, x_.l, x_.o, x_.s, x_.a, x_.b, x_.c, x_.d, x_.e, x_.m⟩) := of_decide_eq_false h39
        replace hm := ite_no hm h39p
        refine W.skip ?_
        refine hK30 _ _ ?_
        clear hK30
        refine W.seq fun K42 hK42 => ?_
        refine W.region ?_
        refine ops_run 3 (by kernel_rfl) ?_
        obtain ⟨r43, h44, hm⟩ := bind_some hm
        replace h44 := some_inj h44
        refine ops_set 4 (v := .int .u64 r43) (Eq.trans (by kernel_rfl) (congrArg (Value.int .u64) h44)) ?_
        refine ops_done (by kernel_rfl) ?_
        refine hK42 _ _ ?_
        clear hK42
        refine W.seq_join (fun s_ w_ => ∃ (p45 : Int) (p46 : Int) (p47 : Int) (p48 : Int) (p49 : Int) (p50 : Int) (p51 : Int) (p52 : Int) (p53 : Int) (p54 : Int), (∃ us, s_ = slots 93 [(7, (.pointer (some ⟨b4, 0, none⟩))), (11, (.pointer (some ⟨b13, 0, none⟩)))] us) ∧ St B w [] w_ [blk b26 (.cells [(.int .i64 4), (.int .i64 64), (.int .i64 512)].toArray 56 (0, 0)), blk b13 (.cells [(.int .i64 1), (.int .i64 (2 + i_ % 20)), (.int .i64 (2 + b_ % 60))].toArray 56 (0, 0)), blk b4 (.cells [(.int .u64 p45), (.int .u64 p46), (.int .u64 p47), (.int .u64 p48), (.int .u64 p49), (.int .u64 p50), (.int .u64 p51), (.int .u64 p52), (.int .u64 p53), (.int .u64 p54)].toArray 54 (0, 0))] ∧ inoderight_J1 i_ b_ p45 p46 p47 p48 p49 p50 p51 p52 p53 p54 = some true) ?_ ?_
        ·
          rintro _ w55 ⟨p45, p46, p47, p48, p49, p50, p51, p52, p53, p54, ⟨us, rfl⟩, hs56, hm⟩
          unfold inoderight_J1 at hm
          refine W.seq fun K57 hK57 => ?_
          refine W.region ?_
          refine ops_R (runs_loadAgg (ad := ⟨b13, 0, none⟩) (cs := [(.int .i64 1), (.int .i64 (2 + i_ % 20)), (.int .i64 (2 + b_ % 60))]) (by kernel_rfl) (cells_sub (hs56.heapAt 1 rfl) rfl)) ?_
          refine ops_R (runs_loadAgg (ad := ⟨b4, 0, none⟩) (cs := [(.int .u64 p45), (.int .u64 p46), (.int .u64 p47), (.int .u64 p48), (.int .u64 p49), (.int .u64 p50), (.int .u64 p51), (.int .u64 p52), (.int .u64 p53), (.int .u64 p54)]) (by kernel_rfl) (cells_sub (hs56.heapAt 2 rfl) rfl)) ?_
          refine ops_call (pre := []) hs56 (by kernel_rfl) (right_spec (gw := 1) (gi := (2 + i_ % 20)) (gb := (2 + b_ % 60)) (x_ := ⟨p45, p46, p47, p48, p49, p50, p51, p52, p53, p54⟩) B _) ?_
          rintro _ _ w58 ⟨rfl, rfl⟩ hs59
          have hs60 : St B w [] w58 [blk b26 (.cells [(.int .i64 4), (.int .i64 64), (.int .i64 512)].toArray 56 (0, 0)), blk b13 (.cells [(.int .i64 1), (.int .i64 (2 + i_ % 20)), (.int .i64 (2 + b_ % 60))].toArray 56 (0, 0)), blk b4 (.cells [(.int .u64 p45), (.int .u64 p46), (.int .u64 p47), (.int .u64 p48), (.int .u64 p49), (.int .u64 p50), (.int .u64 p51), (.int .u64 p52), (.int .u64 p53), (.int .u64 p54)].toArray 54 (0, 0))] := hs59
          refine ops_run 2 (by kernel_rfl) ?_
          rcases Bool.eq_false_or_eq_true (!(decide (RightP 1 (2 + i_ % 20) (2 + b_ % 60) ⟨p45, p46, p47, p48, p49, p50, p51, p52, p53, p54⟩))) with h61 | h61
          rotate_left
          ·
            have h61p : RightP 1 (2 + i_ % 20) (2 + b_ % 60) ⟨p45, p46, p47, p48, p49, p50, p51, p52, p53, p54⟩ := of_decide_eq_true (bnot_false h61)
            replace hm := ite_yes hm h61p
            refine ops_set 90 (v := .bool false) (eq_bool_of (by kernel_rfl) h61) ?_
            refine ops_set 89 (v := .bool false) (eq_bool_of (by kernel_rfl) h61) ?_
            refine ops_run 3 (by kernel_rfl) ?_
            refine ops_done (by kernel_rfl) ?_
            refine hK57 _ _ ?_
            clear hK57
            refine W.ret ?_
            have hs62 : St B w [] w58 [] := St.take (H := []) hs60
            refine ret_of (.bool false) (by kernel_rfl) ⟨_, ⟨congrArg Value.bool (some_inj hm), rfl⟩, hs62⟩
          ·
            have h61p : ¬ (RightP 1 (2 + i_ % 20) (2 + b_ % 60) ⟨p45, p46, p47, p48, p49, p50, p51, p52, p53, p54⟩) := of_decide_eq_false (bnot_true h61)
            replace hm := ite_no hm h61p
            refine ops_set 90 (v := .bool true) (eq_bool_of (by kernel_rfl) h61) ?_
            refine ops_set 89 (v := .bool true) (eq_bool_of (by kernel_rfl) h61) ?_
            refine ops_call (pre := []) hs60 (by kernel_rfl) (works12_spec B _) ?_
            rintro _ _ w63 ⟨rfl, rfl⟩ hs64
            have hs65 : St B w [] w63 [blk b26 (.cells [(.int .i64 4), (.int .i64 64), (.int .i64 512)].toArray 56 (0, 0)), blk b13 (.cells [(.int .i64 1), (.int .i64 (2 + i_ % 20)), (.int .i64 (2 + b_ % 60))].toArray 56 (0, 0)), blk b4 (.cells [(.int .u64 p45), (.int .u64 p46), (.int .u64 p47), (.int .u64 p48), (.int .u64 p49), (.int .u64 p50), (.int .u64 p51), (.int .u64 p52), (.int .u64 p53), (.int .u64 p54)].toArray 54 (0, 0))] := hs64
            refine ops_run 2 (by kernel_rfl) ?_
            refine ops_done (by kernel_rfl) ?_
            refine hK57 _ _ ?_
            clear hK57
            refine W.ret ?_
            have hs66 : St B w [] w63 [] := St.take (H := []) hs65
            refine ret_of (.bool true) (by kernel_rfl) ⟨_, ⟨congrArg Value.bool (some_inj hm), rfl⟩, hs66⟩
        ·
          refine W.seq fun K67 hK67 => ?_
          refine W.region ?_
          refine ops_run 2 (by kernel_rfl) ?_
          refine ops_done (by kernel_rfl) ?_
          refine hK67 _ _ ?_
          clear hK67
          refine W.block ?_
          refine W.seq fun K68 hK68 => ?_
          refine W.region ?_
          refine ops_run 2 (by kernel_rfl) ?_
          refine ops_done (by kernel_rfl) ?_
          refine hK68 _ _ ?_
          clear hK68
          refine W.cond (decide (wh_.tmod 7 = 0)) (by kernel_rfl) (fun h69 => ?_) (fun h69 => ?_)
          ·
            have h69p : wh_.tmod 7 = 0 := of_decide_eq_true h69
            replace hm := ite_yes hm h69p
            refine W.region ?_
            refine ops_run 1 (by kernel_rfl) ?_
            refine ops_val (v := .int .u64 (IntKind.u64.wrap (3 + r43))) (v' := .int .u64 ((3 + r43) % 18446744073709551616)) (by kernel_rfl) (congrArg (Value.int .u64) (wrap_u64_mod _)) ?_
            refine ops_run 1 (by kernel_rfl) ?_
            have hs72 : St B w [] w36 [blk b4 (.cells [(.int .u64 x_.k), (.int .u64 x_.l), (.int .u64 x_.o), (.int .u64 x_.s), (.int .u64 x_.a), (.int .u64 x_.b), (.int .u64 x_.c), (.int .u64 x_.d), (.int .u64 x_.e), (.int .u64 x_.m)].toArray 54 (0, 0)), blk b26 (.cells [(.int .i64 4), (.int .i64 64), (.int .i64 512)].toArray 56 (0, 0)), blk b13 (.cells [(.int .i64 1), (.int .i64 (2 + i_ % 20)), (.int .i64 (2 + b_ % 60))].toArray 56 (0, 0))] := hs38.front 2 (by simp)
            refine ops_store (off := 0) (cs := [(.int .u64 x_.k), (.int .u64 x_.l), (.int .u64 x_.o), (.int .u64 x_.s), (.int .u64 x_.a), (.int .u64 x_.b), (.int .u64 x_.c), (.int .u64 x_.d), (.int .u64 x_.e), (.int .u64 x_.m)]) (vs := [(.int .u64 ((3 + r43) % 18446744073709551616))]) hs72 (by kernel_rfl) (by simp) rfl (fun w70 hs71 => ?_)
            have hs73 : St B w [] w70 [blk b4 (.cells [(.int .u64 ((3 + r43) % 18446744073709551616)), (.int .u64 x_.l), (.int .u64 x_.o), (.int .u64 x_.s), (.int .u64 x_.a), (.int .u64 x_.b), (.int .u64 x_.c), (.int .u64 x_.d), (.int .u64 x_.e), (.int .u64 x_.m)].toArray 54 (0, 0)), blk b26 (.cells [(.int .i64 4), (.int .i64 64), (.int .i64 512)].toArray 56 (0, 0)), blk b13 (.cells [(.int .i64 1), (.int .i64 (2 + i_ % 20)), (.int .i64 (2 + b_ % 60))].toArray 56 (0, 0))] := hs71
            refine ops_done (by kernel_rfl) ?_
            refine normal_block ?_
            have hs74 : St B w [] w70 [blk b13 (.cells [(.int .i64 1), (.int .i64 (2 + i_ % 20)), (.int .i64 (2 + b_ % 60))].toArray 56 (0, 0)), blk b4 (.cells [(.int .u64 ((3 + r43) % 18446744073709551616)), (.int .u64 x_.l), (.int .u64 x_.o), (.int .u64 x_.s), (.int .u64 x_.a), (.int .u64 x_.b), (.int .u64 x_.c), (.int .u64 x_.d), (.int .u64 x_.e), (.int .u64 x_.m)].toArray 54 (0, 0)), blk b26 (.cells [(.int .i64 4), (.int .i64 64), (.int .i64 512)].toArray 56 (0, 0))] := hs73.front 2 (by simp)
            have hs75 : St B w [] w70 [blk b26 (.cells [(.int .i64 4), (.int .i64 64), (.int .i64 512)].toArray 56 (0, 0)), blk b13 (.cells [(.int .i64 1), (.int .i64 (2 + i_ % 20)), (.int .i64 (2 + b_ % 60))].toArray 56 (0, 0)), blk b4 (.cells [(.int .u64 ((3 + r43) % 18446744073709551616)), (.int .u64 x_.l), (.int .u64 x_.o), (.int .u64 x_.s), (.int .u64 x_.a), (.int .u64 x_.b), (.int .u64 x_.c), (.int .u64 x_.d), (.int .u64 x_.e), (.int .u64 x_.m)].toArray 54 (0, 0))] := hs74.front 2 (by simp)
            exact ⟨((3 + r43) % 18446744073709551616), x_.l, x_.o, x_.s, x_.a, x_.b, x_.c, x_.d, x_.e, x_.m, slots_intro _ (by kernel_rfl), hs75, hm⟩
          ·
            have h69p : ¬ (wh_.tmod 7 = 0) := of_decide_eq_false h69
            replace hm := ite_no hm h69p
            refine W.seq fun K76 hK76 => ?_
            refine W.region ?_
            refine ops_run 2 (by kernel_rfl) ?_
            refine ops_done (by kernel_rfl) ?_
            refine hK76 _ _ ?_
            clear hK76
            refine W.cond (decide (wh_.tmod 7 = 1)) (by kernel_rfl) (fun h77 => ?_) (fun h77 => ?_)
            ·
              have h77p : wh_.tmod 7 = 1 := of_decide_eq_true h77
              replace hm := ite_yes hm h77p
              refine W.region ?_
              refine ops_run 1 (by kernel_rfl) ?_
              refine ops_val (v := .int .u64 (IntKind.u64.wrap (65537 + r43))) (v' := .int .u64 ((65537 + r43) % 18446744073709551616)) (by kernel_rfl) (congrArg (Value.int .u64) (wrap_u64_mod _)) ?_
              refine ops_run 1 (by kernel_rfl) ?_
              have hs80 : St B w [] w36 [blk b4 (.cells [(.int .u64 x_.k), (.int .u64 x_.l), (.int .u64 x_.o), (.int .u64 x_.s), (.int .u64 x_.a), (.int .u64 x_.b), (.int .u64 x_.c), (.int .u64 x_.d), (.int .u64 x_.e), (.int .u64 x_.m)].toArray 54 (0, 0)), blk b26 (.cells [(.int .i64 4), (.int .i64 64), (.int .i64 512)].toArray 56 (0, 0)), blk b13 (.cells [(.int .i64 1), (.int .i64 (2 + i_ % 20)), (.int .i64 (2 + b_ % 60))].toArray 56 (0, 0))] := hs38.front 2 (by simp)
              refine ops_store (off := 1) (cs := [(.int .u64 x_.k), (.int .u64 x_.l), (.int .u64 x_.o), (.int .u64 x_.s), (.int .u64 x_.a), (.int .u64 x_.b), (.int .u64 x_.c), (.int .u64 x_.d), (.int .u64 x_.e), (.int .u64 x_.m)]) (vs := [(.int .u64 ((65537 + r43) % 18446744073709551616))]) hs80 (by kernel_rfl) (by simp) rfl (fun w78 hs79 => ?_)
              have hs81 : St B w [] w78 [blk b4 (.cells [(.int .u64 x_.k), (.int .u64 ((65537 + r43) % 18446744073709551616)), (.int .u64 x_.o), (.int .u64 x_.s), (.int .u64 x_.a), (.int .u64 x_.b), (.int .u64 x_.c), (.int .u64 x_.d), (.int .u64 x_.e), (.int .u64 x_.m)].toArray 54 (0, 0)), blk b26 (.cells [(.int .i64 4), (.int .i64 64), (.int .i64 512)].toArray 56 (0, 0)), blk b13 (.cells [(.int .i64 1), (.int .i64 (2 + i_ % 20)), (.int .i64 (2 + b_ % 60))].toArray 56 (0, 0))] := hs79
              refine ops_done (by kernel_rfl) ?_
              refine normal_block ?_
              have hs82 : St B w [] w78 [blk b13 (.cells [(.int .i64 1), (.int .i64 (2 + i_ % 20)), (.int .i64 (2 + b_ % 60))].toArray 56 (0, 0)), blk b4 (.cells [(.int .u64 x_.k), (.int .u64 ((65537 + r43) % 18446744073709551616)), (.int .u64 x_.o), (.int .u64 x_.s), (.int .u64 x_.a), (.int .u64 x_.b), (.int .u64 x_.c), (.int .u64 x_.d), (.int .u64 x_.e), (.int .u64 x_.m)].toArray 54 (0, 0)), blk b26 (.cells [(.int .i64 4), (.int .i64 64), (.int .i64 512)].toArray 56 (0, 0))] := hs81.front 2 (by simp)
              have hs83 : St B w [] w78 [blk b26 (.cells [(.int .i64 4), (.int .i64 64), (.int .i64 512)].toArray 56 (0, 0)), blk b13 (.cells [(.int .i64 1), (.int .i64 (2 + i_ % 20)), (.int .i64 (2 + b_ % 60))].toArray 56 (0, 0)), blk b4 (.cells [(.int .u64 x_.k), (.int .u64 ((65537 + r43) % 18446744073709551616)), (.int .u64 x_.o), (.int .u64 x_.s), (.int .u64 x_.a), (.int .u64 x_.b), (.int .u64 x_.c), (.int .u64 x_.d), (.int .u64 x_.e), (.int .u64 x_.m)].toArray 54 (0, 0))] := hs82.front 2 (by simp)
              exact ⟨x_.k, ((65537 + r43) % 18446744073709551616), x_.o, x_.s, x_.a, x_.b, x_.c, x_.d, x_.e, x_.m, slots_intro _ (by kernel_rfl), hs83, hm⟩
            ·
              have h77p : ¬ (wh_.tmod 7 = 1) := of_decide_eq_false h77
              replace hm := ite_no hm h77p
              refine W.seq fun K84 hK84 => ?_
              refine W.region ?_
              refine ops_run 2 (by kernel_rfl) ?_
              refine ops_done (by kernel_rfl) ?_
              refine hK84 _ _ ?_
              clear hK84
              refine W.cond (decide (wh_.tmod 7 = 2)) (by kernel_rfl) (fun h85 => ?_) (fun h85 => ?_)
              ·
                have h85p : wh_.tmod 7 = 2 := of_decide_eq_true h85
                replace hm := ite_yes hm h85p
                refine W.region ?_
                refine ops_run 1 (by kernel_rfl) ?_
                refine ops_val (v := .int .u64 (IntKind.u64.wrap (17 + r43))) (v' := .int .u64 ((17 + r43) % 18446744073709551616)) (by kernel_rfl) (congrArg (Value.int .u64) (wrap_u64_mod _)) ?_
                refine ops_run 1 (by kernel_rfl) ?_
                have hs88 : St B w [] w36 [blk b4 (.cells [(.int .u64 x_.k), (.int .u64 x_.l), (.int .u64 x_.o), (.int .u64 x_.s), (.int .u64 x_.a), (.int .u64 x_.b), (.int .u64 x_.c), (.int .u64 x_.d), (.int .u64 x_.e), (.int .u64 x_.m)].toArray 54 (0, 0)), blk b26 (.cells [(.int .i64 4), (.int .i64 64), (.int .i64 512)].toArray 56 (0, 0)), blk b13 (.cells [(.int .i64 1), (.int .i64 (2 + i_ % 20)), (.int .i64 (2 + b_ % 60))].toArray 56 (0, 0))] := hs38.front 2 (by simp)
                refine ops_store (off := 2) (cs := [(.int .u64 x_.k), (.int .u64 x_.l), (.int .u64 x_.o), (.int .u64 x_.s), (.int .u64 x_.a), (.int .u64 x_.b), (.int .u64 x_.c), (.int .u64 x_.d), (.int .u64 x_.e), (.int .u64 x_.m)]) (vs := [(.int .u64 ((17 + r43) % 18446744073709551616))]) hs88 (by kernel_rfl) (by simp) rfl (fun w86 hs87 => ?_)
                have hs89 : St B w [] w86 [blk b4 (.cells [(.int .u64 x_.k), (.int .u64 x_.l), (.int .u64 ((17 + r43) % 18446744073709551616)), (.int .u64 x_.s), (.int .u64 x_.a), (.int .u64 x_.b), (.int .u64 x_.c), (.int .u64 x_.d), (.int .u64 x_.e), (.int .u64 x_.m)].toArray 54 (0, 0)), blk b26 (.cells [(.int .i64 4), (.int .i64 64), (.int .i64 512)].toArray 56 (0, 0)), blk b13 (.cells [(.int .i64 1), (.int .i64 (2 + i_ % 20)), (.int .i64 (2 + b_ % 60))].toArray 56 (0, 0))] := hs87
                refine ops_done (by kernel_rfl) ?_
                refine normal_block ?_
                have hs90 : St B w [] w86 [blk b13 (.cells [(.int .i64 1), (.int .i64 (2 + i_ % 20)), (.int .i64 (2 + b_ % 60))].toArray 56 (0, 0)), blk b4 (.cells [(.int .u64 x_.k), (.int .u64 x_.l), (.int .u64 ((17 + r43) % 18446744073709551616)), (.int .u64 x_.s), (.int .u64 x_.a), (.int .u64 x_.b), (.int .u64 x_.c), (.int .u64 x_.d), (.int .u64 x_.e), (.int .u64 x_.m)].toArray 54 (0, 0)), blk b26 (.cells [(.int .i64 4), (.int .i64 64), (.int .i64 512)].toArray 56 (0, 0))] := hs89.front 2 (by simp)
                have hs91 : St B w [] w86 [blk b26 (.cells [(.int .i64 4), (.int .i64 64), (.int .i64 512)].toArray 56 (0, 0)), blk b13 (.cells [(.int .i64 1), (.int .i64 (2 + i_ % 20)), (.int .i64 (2 + b_ % 60))].toArray 56 (0, 0)), blk b4 (.cells [(.int .u64 x_.k), (.int .u64 x_.l), (.int .u64 ((17 + r43) % 18446744073709551616)), (.int .u64 x_.s), (.int .u64 x_.a), (.int .u64 x_.b), (.int .u64 x_.c), (.int .u64 x_.d), (.int .u64 x_.e), (.int .u64 x_.m)].toArray 54 (0, 0))] := hs90.front 2 (by simp)
                exact ⟨x_.k, x_.l, ((17 + r43) % 18446744073709551616), x_.s, x_.a, x_.b, x_.c, x_.d, x_.e, x_.m, slots_intro _ (by kernel_rfl), hs91, hm⟩
              ·
                have h85p : ¬ (wh_.tmod 7 = 2) := of_decide_eq_false h85
                replace hm := ite_no hm h85p
                refine W.seq fun K92 hK92 => ?_
                refine W.region ?_
                refine ops_run 2 (by kernel_rfl) ?_
                refine ops_done (by kernel_rfl) ?_
                refine hK92 _ _ ?_
                clear hK92
                refine W.cond (decide (wh_.tmod 7 = 3)) (by kernel_rfl) (fun h93 => ?_) (fun h93 => ?_)
                ·
                  have h93p : wh_.tmod 7 = 3 := of_decide_eq_true h93
                  replace hm := ite_yes hm h93p
                  refine W.region ?_
                  refine ops_run 1 (by kernel_rfl) ?_
                  refine ops_val (v := .int .u64 (IntKind.u64.wrap (769 + r43))) (v' := .int .u64 ((769 + r43) % 18446744073709551616)) (by kernel_rfl) (congrArg (Value.int .u64) (wrap_u64_mod _)) ?_
                  refine ops_run 1 (by kernel_rfl) ?_
                  have hs96 : St B w [] w36 [blk b4 (.cells [(.int .u64 x_.k), (.int .u64 x_.l), (.int .u64 x_.o), (.int .u64 x_.s), (.int .u64 x_.a), (.int .u64 x_.b), (.int .u64 x_.c), (.int .u64 x_.d), (.int .u64 x_.e), (.int .u64 x_.m)].toArray 54 (0, 0)), blk b26 (.cells [(.int .i64 4), (.int .i64 64), (.int .i64 512)].toArray 56 (0, 0)), blk b13 (.cells [(.int .i64 1), (.int .i64 (2 + i_ % 20)), (.int .i64 (2 + b_ % 60))].toArray 56 (0, 0))] := hs38.front 2 (by simp)
                  refine ops_store (off := 3) (cs := [(.int .u64 x_.k), (.int .u64 x_.l), (.int .u64 x_.o), (.int .u64 x_.s), (.int .u64 x_.a), (.int .u64 x_.b), (.int .u64 x_.c), (.int .u64 x_.d), (.int .u64 x_.e), (.int .u64 x_.m)]) (vs := [(.int .u64 ((769 + r43) % 18446744073709551616))]) hs96 (by kernel_rfl) (by simp) rfl (fun w94 hs95 => ?_)
                  have hs97 : St B w [] w94 [blk b4 (.cells [(.int .u64 x_.k), (.int .u64 x_.l), (.int .u64 x_.o), (.int .u64 ((769 + r43) % 18446744073709551616)), (.int .u64 x_.a), (.int .u64 x_.b), (.int .u64 x_.c), (.int .u64 x_.d), (.int .u64 x_.e), (.int .u64 x_.m)].toArray 54 (0, 0)), blk b26 (.cells [(.int .i64 4), (.int .i64 64), (.int .i64 512)].toArray 56 (0, 0)), blk b13 (.cells [(.int .i64 1), (.int .i64 (2 + i_ % 20)), (.int .i64 (2 + b_ % 60))].toArray 56 (0, 0))] := hs95
                  refine ops_done (by kernel_rfl) ?_
                  refine normal_block ?_
                  have hs98 : St B w [] w94 [blk b13 (.cells [(.int .i64 1), (.int .i64 (2 + i_ % 20)), (.int .i64 (2 + b_ % 60))].toArray 56 (0, 0)), blk b4 (.cells [(.int .u64 x_.k), (.int .u64 x_.l), (.int .u64 x_.o), (.int .u64 ((769 + r43) % 18446744073709551616)), (.int .u64 x_.a), (.int .u64 x_.b), (.int .u64 x_.c), (.int .u64 x_.d), (.int .u64 x_.e), (.int .u64 x_.m)].toArray 54 (0, 0)), blk b26 (.cells [(.int .i64 4), (.int .i64 64), (.int .i64 512)].toArray 56 (0, 0))] := hs97.front 2 (by simp)
                  have hs99 : St B w [] w94 [blk b26 (.cells [(.int .i64 4), (.int .i64 64), (.int .i64 512)].toArray 56 (0, 0)), blk b13 (.cells [(.int .i64 1), (.int .i64 (2 + i_ % 20)), (.int .i64 (2 + b_ % 60))].toArray 56 (0, 0)), blk b4 (.cells [(.int .u64 x_.k), (.int .u64 x_.l), (.int .u64 x_.o), (.int .u64 ((769 + r43) % 18446744073709551616)), (.int .u64 x_.a), (.int .u64 x_.b), (.int .u64 x_.c), (.int .u64 x_.d), (.int .u64 x_.e), (.int .u64 x_.m)].toArray 54 (0, 0))] := hs98.front 2 (by simp)
                  exact ⟨x_.k, x_.l, x_.o, ((769 + r43) % 18446744073709551616), x_.a, x_.b, x_.c, x_.d, x_.e, x_.m, slots_intro _ (by kernel_rfl), hs99, hm⟩
                ·
                  have h93p : ¬ (wh_.tmod 7 = 3) := of_decide_eq_false h93
                  replace hm := ite_no hm h93p
                  refine W.seq fun K100 hK100 => ?_
                  refine W.region ?_
                  refine ops_run 2 (by kernel_rfl) ?_
                  refine ops_done (by kernel_rfl) ?_
                  refine hK100 _ _ ?_
                  clear hK100
                  refine W.cond (decide (wh_.tmod 7 = 4)) (by kernel_rfl) (fun h101 => ?_) (fun h101 => ?_)
                  ·
                    have h101p : wh_.tmod 7 = 4 := of_decide_eq_true h101
                    replace hm := ite_yes hm h101p
                    refine W.region ?_
                    refine ops_run 3 (by kernel_rfl) ?_
                    refine ops_R (runs_load (ad := ⟨b13, 2, none⟩) (v := (.int .i64 (2 + b_ % 60))) (by kernel_rfl) (hs38.cellAt 1 rfl rfl)) ?_
                    obtain ⟨h102, hm⟩ := need_some hm
                    refine ops_val (v := .int .u64 (IntKind.u64.wrap (2 + b_ % 60))) (v' := .int .u64 (2 + b_ % 60)) (by kernel_rfl) (congrArg (Value.int .u64) (wrap_u64 h102.1 (Int.lt_of_le_of_lt h102.2 (by decide)))) ?_
                    refine ops_run 1 (by kernel_rfl) ?_
                    refine ops_val (v := .int .u64 (IntKind.u64.wrap ((2 + b_ % 60) + r43))) (v' := .int .u64 (((2 + b_ % 60) + r43) % 18446744073709551616)) (by kernel_rfl) (congrArg (Value.int .u64) (wrap_u64_mod _)) ?_
                    refine ops_run 1 (by kernel_rfl) ?_
                    rcases Bool.eq_false_or_eq_true (decide (r43.tmod 4 = 0)) with h103 | h103
                    ·
                      have h103p : r43.tmod 4 = 0 := of_decide_eq_true h103
                      replace hm := ite_yes hm h103p
                      refine ops_R (runs_indexA (ad := ⟨b4, 4, none⟩) (n := 4) (z := r43.tmod 4) (size := 1) 0 h103p (by decide) (by kernel_rfl)) ?_
                      have hs106 : St B w [] w36 [blk b4 (.cells [(.int .u64 x_.k), (.int .u64 x_.l), (.int .u64 x_.o), (.int .u64 x_.s), (.int .u64 x_.a), (.int .u64 x_.b), (.int .u64 x_.c), (.int .u64 x_.d), (.int .u64 x_.e), (.int .u64 x_.m)].toArray 54 (0, 0)), blk b26 (.cells [(.int .i64 4), (.int .i64 64), (.int .i64 512)].toArray 56 (0, 0)), blk b13 (.cells [(.int .i64 1), (.int .i64 (2 + i_ % 20)), (.int .i64 (2 + b_ % 60))].toArray 56 (0, 0))] := hs38.front 2 (by simp)
                      refine ops_store (off := 4) (cs := [(.int .u64 x_.k), (.int .u64 x_.l), (.int .u64 x_.o), (.int .u64 x_.s), (.int .u64 x_.a), (.int .u64 x_.b), (.int .u64 x_.c), (.int .u64 x_.d), (.int .u64 x_.e), (.int .u64 x_.m)]) (vs := [(.int .u64 (((2 + b_ % 60) + r43) % 18446744073709551616))]) hs106 (by kernel_rfl) (by simp) rfl (fun w104 hs105 => ?_)
                      have hs107 : St B w [] w104 [blk b4 (.cells [(.int .u64 x_.k), (.int .u64 x_.l), (.int .u64 x_.o), (.int .u64 x_.s), (.int .u64 (((2 + b_ % 60) + r43) % 18446744073709551616)), (.int .u64 x_.b), (.int .u64 x_.c), (.int .u64 x_.d), (.int .u64 x_.e), (.int .u64 x_.m)].toArray 54 (0, 0)), blk b26 (.cells [(.int .i64 4), (.int .i64 64), (.int .i64 512)].toArray 56 (0, 0)), blk b13 (.cells [(.int .i64 1), (.int .i64 (2 + i_ % 20)), (.int .i64 (2 + b_ % 60))].toArray 56 (0, 0))] := hs105
                      refine ops_done (by kernel_rfl) ?_
                      refine normal_block ?_
                      have hs108 : St B w [] w104 [blk b13 (.cells [(.int .i64 1), (.int .i64 (2 + i_ % 20)), (.int .i64 (2 + b_ % 60))].toArray 56 (0, 0)), blk b4 (.cells [(.int .u64 x_.k), (.int .u64 x_.l), (.int .u64 x_.o), (.int .u64 x_.s), (.int .u64 (((2 + b_ % 60) + r43) % 18446744073709551616)), (.int .u64 x_.b), (.int .u64 x_.c), (.int .u64 x_.d), (.int .u64 x_.e), (.int .u64 x_.m)].toArray 54 (0, 0)), blk b26 (.cells [(.int .i64 4), (.int .i64 64), (.int .i64 512)].toArray 56 (0, 0))] := hs107.front 2 (by simp)
                      have hs109 : St B w [] w104 [blk b26 (.cells [(.int .i64 4), (.int .i64 64), (.int .i64 512)].toArray 56 (0, 0)), blk b13 (.cells [(.int .i64 1), (.int .i64 (2 + i_ % 20)), (.int .i64 (2 + b_ % 60))].toArray 56 (0, 0)), blk b4 (.cells [(.int .u64 x_.k), (.int .u64 x_.l), (.int .u64 x_.o), (.int .u64 x_.s), (.int .u64 (((2 + b_ % 60) + r43) % 18446744073709551616)), (.int .u64 x_.b), (.int .u64 x_.c), (.int .u64 x_.d), (.int .u64 x_.e), (.int .u64 x_.m)].toArray 54 (0, 0))] := hs108.front 2 (by simp)
                      exact ⟨x_.k, x_.l, x_.o, x_.s, (((2 + b_ % 60) + r43) % 18446744073709551616), x_.b, x_.c, x_.d, x_.e, x_.m, slots_intro _ (by kernel_rfl), hs109, hm⟩
                    ·
                      have h103p : ¬ (r43.tmod 4 = 0) := of_decide_eq_false h103
                      replace hm := ite_no hm h103p
                      rcases Bool.eq_false_or_eq_true (decide (r43.tmod 4 = 1)) with h110 | h110
                      ·
                        have h110p : r43.tmod 4 = 1 := of_decide_eq_true h110
                        replace hm := ite_yes hm h110p
                        refine ops_R (runs_indexA (ad := ⟨b4, 4, none⟩) (n := 4) (z := r43.tmod 4) (size := 1) 1 h110p (by decide) (by kernel_rfl)) ?_
                        have hs113 : St B w [] w36 [blk b4 (.cells [(.int .u64 x_.k), (.int .u64 x_.l), (.int .u64 x_.o), (.int .u64 x_.s), (.int .u64 x_.a), (.int .u64 x_.b), (.int .u64 x_.c), (.int .u64 x_.d), (.int .u64 x_.e), (.int .u64 x_.m)].toArray 54 (0, 0)), blk b26 (.cells [(.int .i64 4), (.int .i64 64), (.int .i64 512)].toArray 56 (0, 0)), blk b13 (.cells [(.int .i64 1), (.int .i64 (2 + i_ % 20)), (.int .i64 (2 + b_ % 60))].toArray 56 (0, 0))] := hs38.front 2 (by simp)
                        refine ops_store (off := 5) (cs := [(.int .u64 x_.k), (.int .u64 x_.l), (.int .u64 x_.o), (.int .u64 x_.s), (.int .u64 x_.a), (.int .u64 x_.b), (.int .u64 x_.c), (.int .u64 x_.d), (.int .u64 x_.e), (.int .u64 x_.m)]) (vs := [(.int .u64 (((2 + b_ % 60) + r43) % 18446744073709551616))]) hs113 (by kernel_rfl) (by simp) rfl (fun w111 hs112 => ?_)
                        have hs114 : St B w [] w111 [blk b4 (.cells [(.int .u64 x_.k), (.int .u64 x_.l), (.int .u64 x_.o), (.int .u64 x_.s), (.int .u64 x_.a), (.int .u64 (((2 + b_ % 60) + r43) % 18446744073709551616)), (.int .u64 x_.c), (.int .u64 x_.d), (.int .u64 x_.e), (.int .u64 x_.m)].toArray 54 (0, 0)), blk b26 (.cells [(.int .i64 4), (.int .i64 64), (.int .i64 512)].toArray 56 (0, 0)), blk b13 (.cells [(.int .i64 1), (.int .i64 (2 + i_ % 20)), (.int .i64 (2 + b_ % 60))].toArray 56 (0, 0))] := hs112
                        refine ops_done (by kernel_rfl) ?_
                        refine normal_block ?_
                        have hs115 : St B w [] w111 [blk b13 (.cells [(.int .i64 1), (.int .i64 (2 + i_ % 20)), (.int .i64 (2 + b_ % 60))].toArray 56 (0, 0)), blk b4 (.cells [(.int .u64 x_.k), (.int .u64 x_.l), (.int .u64 x_.o), (.int .u64 x_.s), (.int .u64 x_.a), (.int .u64 (((2 + b_ % 60) + r43) % 18446744073709551616)), (.int .u64 x_.c), (.int .u64 x_.d), (.int .u64 x_.e), (.int .u64 x_.m)].toArray 54 (0, 0)), blk b26 (.cells [(.int .i64 4), (.int .i64 64), (.int .i64 512)].toArray 56 (0, 0))] := hs114.front 2 (by simp)
                        have hs116 : St B w [] w111 [blk b26 (.cells [(.int .i64 4), (.int .i64 64), (.int .i64 512)].toArray 56 (0, 0)), blk b13 (.cells [(.int .i64 1), (.int .i64 (2 + i_ % 20)), (.int .i64 (2 + b_ % 60))].toArray 56 (0, 0)), blk b4 (.cells [(.int .u64 x_.k), (.int .u64 x_.l), (.int .u64 x_.o), (.int .u64 x_.s), (.int .u64 x_.a), (.int .u64 (((2 + b_ % 60) + r43) % 18446744073709551616)), (.int .u64 x_.c), (.int .u64 x_.d), (.int .u64 x_.e), (.int .u64 x_.m)].toArray 54 (0, 0))] := hs115.front 2 (by simp)
                        exact ⟨x_.k, x_.l, x_.o, x_.s, x_.a, (((2 + b_ % 60) + r43) % 18446744073709551616), x_.c, x_.d, x_.e, x_.m, slots_intro _ (by kernel_rfl), hs116, hm⟩
                      ·
                        have h110p : ¬ (r43.tmod 4 = 1) := of_decide_eq_false h110
                        replace hm := ite_no hm h110p
                        rcases Bool.eq_false_or_eq_true (decide (r43.tmod 4 = 2)) with h117 | h117
                        ·
                          have h117p : r43.tmod 4 = 2 := of_decide_eq_true h117
                          replace hm := ite_yes hm h117p
                          refine ops_R (runs_indexA (ad := ⟨b4, 4, none⟩) (n := 4) (z := r43.tmod 4) (size := 1) 2 h117p (by decide) (by kernel_rfl)) ?_
                          have hs120 : St B w [] w36 [blk b4 (.cells [(.int .u64 x_.k), (.int .u64 x_.l), (.int .u64 x_.o), (.int .u64 x_.s), (.int .u64 x_.a), (.int .u64 x_.b), (.int .u64 x_.c), (.int .u64 x_.d), (.int .u64 x_.e), (.int .u64 x_.m)].toArray 54 (0, 0)), blk b26 (.cells [(.int .i64 4), (.int .i64 64), (.int .i64 512)].toArray 56 (0, 0)), blk b13 (.cells [(.int .i64 1), (.int .i64 (2 + i_ % 20)), (.int .i64 (2 + b_ % 60))].toArray 56 (0, 0))] := hs38.front 2 (by simp)
                          refine ops_store (off := 6) (cs := [(.int .u64 x_.k), (.int .u64 x_.l), (.int .u64 x_.o), (.int .u64 x_.s), (.int .u64 x_.a), (.int .u64 x_.b), (.int .u64 x_.c), (.int .u64 x_.d), (.int .u64 x_.e), (.int .u64 x_.m)]) (vs := [(.int .u64 (((2 + b_ % 60) + r43) % 18446744073709551616))]) hs120 (by kernel_rfl) (by simp) rfl (fun w118 hs119 => ?_)
                          have hs121 : St B w [] w118 [blk b4 (.cells [(.int .u64 x_.k), (.int .u64 x_.l), (.int .u64 x_.o), (.int .u64 x_.s), (.int .u64 x_.a), (.int .u64 x_.b), (.int .u64 (((2 + b_ % 60) + r43) % 18446744073709551616)), (.int .u64 x_.d), (.int .u64 x_.e), (.int .u64 x_.m)].toArray 54 (0, 0)), blk b26 (.cells [(.int .i64 4), (.int .i64 64), (.int .i64 512)].toArray 56 (0, 0)), blk b13 (.cells [(.int .i64 1), (.int .i64 (2 + i_ % 20)), (.int .i64 (2 + b_ % 60))].toArray 56 (0, 0))] := hs119
                          refine ops_done (by kernel_rfl) ?_
                          refine normal_block ?_
                          have hs122 : St B w [] w118 [blk b13 (.cells [(.int .i64 1), (.int .i64 (2 + i_ % 20)), (.int .i64 (2 + b_ % 60))].toArray 56 (0, 0)), blk b4 (.cells [(.int .u64 x_.k), (.int .u64 x_.l), (.int .u64 x_.o), (.int .u64 x_.s), (.int .u64 x_.a), (.int .u64 x_.b), (.int .u64 (((2 + b_ % 60) + r43) % 18446744073709551616)), (.int .u64 x_.d), (.int .u64 x_.e), (.int .u64 x_.m)].toArray 54 (0, 0)), blk b26 (.cells [(.int .i64 4), (.int .i64 64), (.int .i64 512)].toArray 56 (0, 0))] := hs121.front 2 (by simp)
                          have hs123 : St B w [] w118 [blk b26 (.cells [(.int .i64 4), (.int .i64 64), (.int .i64 512)].toArray 56 (0, 0)), blk b13 (.cells [(.int .i64 1), (.int .i64 (2 + i_ % 20)), (.int .i64 (2 + b_ % 60))].toArray 56 (0, 0)), blk b4 (.cells [(.int .u64 x_.k), (.int .u64 x_.l), (.int .u64 x_.o), (.int .u64 x_.s), (.int .u64 x_.a), (.int .u64 x_.b), (.int .u64 (((2 + b_ % 60) + r43) % 18446744073709551616)), (.int .u64 x_.d), (.int .u64 x_.e), (.int .u64 x_.m)].toArray 54 (0, 0))] := hs122.front 2 (by simp)
                          exact ⟨x_.k, x_.l, x_.o, x_.s, x_.a, x_.b, (((2 + b_ % 60) + r43) % 18446744073709551616), x_.d, x_.e, x_.m, slots_intro _ (by kernel_rfl), hs123, hm⟩
                        ·
                          have h117p : ¬ (r43.tmod 4 = 2) := of_decide_eq_false h117
                          replace hm := ite_no hm h117p
                          rcases Bool.eq_false_or_eq_true (decide (r43.tmod 4 = 3)) with h124 | h124
                          ·
                            have h124p : r43.tmod 4 = 3 := of_decide_eq_true h124
                            replace hm := ite_yes hm h124p
                            refine ops_R (runs_indexA (ad := ⟨b4, 4, none⟩) (n := 4) (z := r43.tmod 4) (size := 1) 3 h124p (by decide) (by kernel_rfl)) ?_
                            have hs127 : St B w [] w36 [blk b4 (.cells [(.int .u64 x_.k), (.int .u64 x_.l), (.int .u64 x_.o), (.int .u64 x_.s), (.int .u64 x_.a), (.int .u64 x_.b), (.int .u64 x_.c), (.int .u64 x_.d), (.int .u64 x_.e), (.int .u64 x_.m)].toArray 54 (0, 0)), blk b26 (.cells [(.int .i64 4), (.int .i64 64), (.int .i64 512)].toArray 56 (0, 0)), blk b13 (.cells [(.int .i64 1), (.int .i64 (2 + i_ % 20)), (.int .i64 (2 + b_ % 60))].toArray 56 (0, 0))] := hs38.front 2 (by simp)
                            refine ops_store (off := 7) (cs := [(.int .u64 x_.k), (.int .u64 x_.l), (.int .u64 x_.o), (.int .u64 x_.s), (.int .u64 x_.a), (.int .u64 x_.b), (.int .u64 x_.c), (.int .u64 x_.d), (.int .u64 x_.e), (.int .u64 x_.m)]) (vs := [(.int .u64 (((2 + b_ % 60) + r43) % 18446744073709551616))]) hs127 (by kernel_rfl) (by simp) rfl (fun w125 hs126 => ?_)
                            have hs128 : St B w [] w125 [blk b4 (.cells [(.int .u64 x_.k), (.int .u64 x_.l), (.int .u64 x_.o), (.int .u64 x_.s), (.int .u64 x_.a), (.int .u64 x_.b), (.int .u64 x_.c), (.int .u64 (((2 + b_ % 60) + r43) % 18446744073709551616)), (.int .u64 x_.e), (.int .u64 x_.m)].toArray 54 (0, 0)), blk b26 (.cells [(.int .i64 4), (.int .i64 64), (.int .i64 512)].toArray 56 (0, 0)), blk b13 (.cells [(.int .i64 1), (.int .i64 (2 + i_ % 20)), (.int .i64 (2 + b_ % 60))].toArray 56 (0, 0))] := hs126
                            refine ops_done (by kernel_rfl) ?_
                            refine normal_block ?_
                            have hs129 : St B w [] w125 [blk b13 (.cells [(.int .i64 1), (.int .i64 (2 + i_ % 20)), (.int .i64 (2 + b_ % 60))].toArray 56 (0, 0)), blk b4 (.cells [(.int .u64 x_.k), (.int .u64 x_.l), (.int .u64 x_.o), (.int .u64 x_.s), (.int .u64 x_.a), (.int .u64 x_.b), (.int .u64 x_.c), (.int .u64 (((2 + b_ % 60) + r43) % 18446744073709551616)), (.int .u64 x_.e), (.int .u64 x_.m)].toArray 54 (0, 0)), blk b26 (.cells [(.int .i64 4), (.int .i64 64), (.int .i64 512)].toArray 56 (0, 0))] := hs128.front 2 (by simp)
                            have hs130 : St B w [] w125 [blk b26 (.cells [(.int .i64 4), (.int .i64 64), (.int .i64 512)].toArray 56 (0, 0)), blk b13 (.cells [(.int .i64 1), (.int .i64 (2 + i_ % 20)), (.int .i64 (2 + b_ % 60))].toArray 56 (0, 0)), blk b4 (.cells [(.int .u64 x_.k), (.int .u64 x_.l), (.int .u64 x_.o), (.int .u64 x_.s), (.int .u64 x_.a), (.int .u64 x_.b), (.int .u64 x_.c), (.int .u64 (((2 + b_ % 60) + r43) % 18446744073709551616)), (.int .u64 x_.e), (.int .u64 x_.m)].toArray 54 (0, 0))] := hs129.front 2 (by simp)
                            exact ⟨x_.k, x_.l, x_.o, x_.s, x_.a, x_.b, x_.c, (((2 + b_ % 60) + r43) % 18446744073709551616), x_.e, x_.m, slots_intro _ (by kernel_rfl), hs130, hm⟩
                          ·
                            have h124p : ¬ (r43.tmod 4 = 3) := of_decide_eq_false h124
                            replace hm := ite_no hm h124p
                            cases hm
                  ·
                    have h101p : ¬ (wh_.tmod 7 = 4) := of_decide_eq_false h101
                    replace hm := ite_no hm h101p
                    refine W.seq fun K131 hK131 => ?_
                    refine W.region ?_
                    refine ops_run 2 (by kernel_rfl) ?_
                    refine ops_done (by kernel_rfl) ?_
                    refine hK131 _ _ ?_
                    clear hK131
                    refine W.cond (decide (wh_.tmod 7 = 5)) (by kernel_rfl) (fun h132 => ?_) (fun h132 => ?_)
                    ·
                      have h132p : wh_.tmod 7 = 5 := of_decide_eq_true h132
                      replace hm := ite_yes hm h132p
                      refine W.region ?_
                      refine ops_run 1 (by kernel_rfl) ?_
                      refine ops_R (runs_load (ad := ⟨b13, 2, none⟩) (v := (.int .i64 (2 + b_ % 60))) (by kernel_rfl) (hs38.cellAt 1 rfl rfl)) ?_
                      obtain ⟨h133, hm⟩ := need_some hm
                      refine ops_val (v := .int .u64 (IntKind.u64.wrap (2 + b_ % 60))) (v' := .int .u64 (2 + b_ % 60)) (by kernel_rfl) (congrArg (Value.int .u64) (wrap_u64 h133.1 (Int.lt_of_le_of_lt h133.2 (by decide)))) ?_
                      refine ops_run 1 (by kernel_rfl) ?_
                      refine ops_val (v := .int .u64 (IntKind.u64.wrap ((2 + b_ % 60) + r43))) (v' := .int .u64 (((2 + b_ % 60) + r43) % 18446744073709551616)) (by kernel_rfl) (congrArg (Value.int .u64) (wrap_u64_mod _)) ?_
                      refine ops_run 1 (by kernel_rfl) ?_
                      have hs136 : St B w [] w36 [blk b4 (.cells [(.int .u64 x_.k), (.int .u64 x_.l), (.int .u64 x_.o), (.int .u64 x_.s), (.int .u64 x_.a), (.int .u64 x_.b), (.int .u64 x_.c), (.int .u64 x_.d), (.int .u64 x_.e), (.int .u64 x_.m)].toArray 54 (0, 0)), blk b26 (.cells [(.int .i64 4), (.int .i64 64), (.int .i64 512)].toArray 56 (0, 0)), blk b13 (.cells [(.int .i64 1), (.int .i64 (2 + i_ % 20)), (.int .i64 (2 + b_ % 60))].toArray 56 (0, 0))] := hs38.front 2 (by simp)
                      refine ops_store (off := 8) (cs := [(.int .u64 x_.k), (.int .u64 x_.l), (.int .u64 x_.o), (.int .u64 x_.s), (.int .u64 x_.a), (.int .u64 x_.b), (.int .u64 x_.c), (.int .u64 x_.d), (.int .u64 x_.e), (.int .u64 x_.m)]) (vs := [(.int .u64 (((2 + b_ % 60) + r43) % 18446744073709551616))]) hs136 (by kernel_rfl) (by simp) rfl (fun w134 hs135 => ?_)
                      have hs137 : St B w [] w134 [blk b4 (.cells [(.int .u64 x_.k), (.int .u64 x_.l), (.int .u64 x_.o), (.int .u64 x_.s), (.int .u64 x_.a), (.int .u64 x_.b), (.int .u64 x_.c), (.int .u64 x_.d), (.int .u64 (((2 + b_ % 60) + r43) % 18446744073709551616)), (.int .u64 x_.m)].toArray 54 (0, 0)), blk b26 (.cells [(.int .i64 4), (.int .i64 64), (.int .i64 512)].toArray 56 (0, 0)), blk b13 (.cells [(.int .i64 1), (.int .i64 (2 + i_ % 20)), (.int .i64 (2 + b_ % 60))].toArray 56 (0, 0))] := hs135
                      refine ops_done (by kernel_rfl) ?_
                      refine normal_block ?_
                      have hs138 : St B w [] w134 [blk b13 (.cells [(.int .i64 1), (.int .i64 (2 + i_ % 20)), (.int .i64 (2 + b_ % 60))].toArray 56 (0, 0)), blk b4 (.cells [(.int .u64 x_.k), (.int .u64 x_.l), (.int .u64 x_.o), (.int .u64 x_.s), (.int .u64 x_.a), (.int .u64 x_.b), (.int .u64 x_.c), (.int .u64 x_.d), (.int .u64 (((2 + b_ % 60) + r43) % 18446744073709551616)), (.int .u64 x_.m)].toArray 54 (0, 0)), blk b26 (.cells [(.int .i64 4), (.int .i64 64), (.int .i64 512)].toArray 56 (0, 0))] := hs137.front 2 (by simp)
                      have hs139 : St B w [] w134 [blk b26 (.cells [(.int .i64 4), (.int .i64 64), (.int .i64 512)].toArray 56 (0, 0)), blk b13 (.cells [(.int .i64 1), (.int .i64 (2 + i_ % 20)), (.int .i64 (2 + b_ % 60))].toArray 56 (0, 0)), blk b4 (.cells [(.int .u64 x_.k), (.int .u64 x_.l), (.int .u64 x_.o), (.int .u64 x_.s), (.int .u64 x_.a), (.int .u64 x_.b), (.int .u64 x_.c), (.int .u64 x_.d), (.int .u64 (((2 + b_ % 60) + r43) % 18446744073709551616)), (.int .u64 x_.m)].toArray 54 (0, 0))] := hs138.front 2 (by simp)
                      exact ⟨x_.k, x_.l, x_.o, x_.s, x_.a, x_.b, x_.c, x_.d, (((2 + b_ % 60) + r43) % 18446744073709551616), x_.m, slots_intro _ (by kernel_rfl), hs139, hm⟩
                    ·
                      have h132p : ¬ (wh_.tmod 7 = 5) := of_decide_eq_false h132
                      replace hm := ite_no hm h132p
                      refine W.region ?_
                      refine ops_run 1 (by kernel_rfl) ?_
                      refine ops_R (runs_load (ad := ⟨b13, 1, none⟩) (v := (.int .i64 (2 + i_ % 20))) (by kernel_rfl) (hs38.cellAt 1 rfl rfl)) ?_
                      obtain ⟨h140, hm⟩ := need_some hm
                      refine ops_val (v := .int .u64 (IntKind.u64.wrap (2 + i_ % 20))) (v' := .int .u64 (2 + i_ % 20)) (by kernel_rfl) (congrArg (Value.int .u64) (wrap_u64 h140.1 (Int.lt_of_le_of_lt h140.2 (by decide)))) ?_
                      refine ops_run 1 (by kernel_rfl) ?_
                      refine ops_val (v := .int .u64 (IntKind.u64.wrap ((2 + i_ % 20) + r43))) (v' := .int .u64 (((2 + i_ % 20) + r43) % 18446744073709551616)) (by kernel_rfl) (congrArg (Value.int .u64) (wrap_u64_mod _)) ?_
                      refine ops_run 1 (by kernel_rfl) ?_
                      have hs143 : St B w [] w36 [blk b4 (.cells [(.int .u64 x_.k), (.int .u64 x_.l), (.int .u64 x_.o), (.int .u64 x_.s), (.int .u64 x_.a), (.int .u64 x_.b), (.int .u64 x_.c), (.int .u64 x_.d), (.int .u64 x_.e), (.int .u64 x_.m)].toArray 54 (0, 0)), blk b26 (.cells [(.int .i64 4), (.int .i64 64), (.int .i64 512)].toArray 56 (0, 0)), blk b13 (.cells [(.int .i64 1), (.int .i64 (2 + i_ % 20)), (.int .i64 (2 + b_ % 60))].toArray 56 (0, 0))] := hs38.front 2 (by simp)
                      refine ops_store (off := 9) (cs := [(.int .u64 x_.k), (.int .u64 x_.l), (.int .u64 x_.o), (.int .u64 x_.s), (.int .u64 x_.a), (.int .u64 x_.b), (.int .u64 x_.c), (.int .u64 x_.d), (.int .u64 x_.e), (.int .u64 x_.m)]) (vs := [(.int .u64 (((2 + i_ % 20) + r43) % 18446744073709551616))]) hs143 (by kernel_rfl) (by simp) rfl (fun w141 hs142 => ?_)
                      have hs144 : St B w [] w141 [blk b4 (.cells [(.int .u64 x_.k), (.int .u64 x_.l), (.int .u64 x_.o), (.int .u64 x_.s), (.int .u64 x_.a), (.int .u64 x_.b), (.int .u64 x_.c), (.int .u64 x_.d), (.int .u64 x_.e), (.int .u64 (((2 + i_ % 20) + r43) % 18446744073709551616))].toArray 54 (0, 0)), blk b26 (.cells [(.int .i64 4), (.int .i64 64), (.int .i64 512)].toArray 56 (0, 0)), blk b13 (.cells [(.int .i64 1), (.int .i64 (2 + i_ % 20)), (.int .i64 (2 + b_ % 60))].toArray 56 (0, 0))] := hs142
                      refine ops_done (by kernel_rfl) ?_
                      refine normal_block ?_
                      have hs145 : St B w [] w141 [blk b13 (.cells [(.int .i64 1), (.int .i64 (2 + i_ % 20)), (.int .i64 (2 + b_ % 60))].toArray 56 (0, 0)), blk b4 (.cells [(.int .u64 x_.k), (.int .u64 x_.l), (.int .u64 x_.o), (.int .u64 x_.s), (.int .u64 x_.a), (.int .u64 x_.b), (.int .u64 x_.c), (.int .u64 x_.d), (.int .u64 x_.e), (.int .u64 (((2 + i_ % 20) + r43) % 18446744073709551616))].toArray 54 (0, 0)), blk b26 (.cells [(.int .i64 4), (.int .i64 64), (.int .i64 512)].toArray 56 (0, 0))] := hs144.front 2 (by simp)
                      have hs146 : St B w [] w141 [blk b26 (.cells [(.int .i64 4), (.int .i64 64), (.int .i64 512)].toArray 56 (0, 0)), blk b13 (.cells [(.int .i64 1), (.int .i64 (2 + i_ % 20)), (.int .i64 (2 + b_ % 60))].toArray 56 (0, 0)), blk b4 (.cells [(.int .u64 x_.k), (.int .u64 x_.l), (.int .u64 x_.o), (.int .u64 x_.s), (.int .u64 x_.a), (.int .u64 x_.b), (.int .u64 x_.c), (.int .u64 x_.d), (.int .u64 x_.e), (.int .u64 (((2 + i_ % 20) + r43) % 18446744073709551616))].toArray 54 (0, 0))] := hs145.front 2 (by simp)
                      exact ⟨x_.k, x_.l, x_.o, x_.s, x_.a, x_.b, x_.c, x_.d, x_.e, (((2 + i_ % 20) + r43) % 18446744073709551616), slots_intro _ (by kernel_rfl), hs146, hm⟩
    ·
      have h35p : ¬ (RightP 4 64 512 ⟨x_.k, x_.l, x_.o, x_.s, x_.a, x_.b, x_.c, x_.d, x_.e, x_.m⟩) := of_decide_eq_false (bnot_true h35)
      replace hm := ite_no hm h35p
      refine ops_set 32 (v := .bool true) (eq_bool_of (by kernel_rfl) h35) ?_
      refine ops_set 31 (v := .bool true) (eq_bool_of (by kernel_rfl) h35) ?_
      refine ops_run 4 (by kernel_rfl) ?_
      refine ops_done (by kernel_rfl) ?_
      refine hK31 _ _ ?_
      clear hK31
      refine W.cond_true true (by kernel_rfl) rfl ?_
      refine W.seq fun K147 hK147 => ?_
      refine W.region ?_
      refine ops_run 1 (by kernel_rfl) ?_
      refine ops_done (by kernel_rfl) ?_
      refine hK147 _ _ ?_
      clear hK147
      refine W.ret (ret_seq ?_)
      have hs148 : St B w [] w32 [] := St.take (H := []) hs34
      refine ret_of (.bool false) (by kernel_rfl) ⟨_, ⟨congrArg Value.bool (some_inj hm), rfl⟩, hs148⟩
  ·
    have h22p : ¬ (RightP 1 (2 + i_ % 20) (2 + b_ % 60) ⟨x_.k, x_.l, x_.o, x_.s, x_.a, x_.b, x_.c, x_.d, x_.e, x_.m⟩) := of_decide_eq_false (bnot_true h22)
    replace hm := ite_no hm h22p
    refine W.seq fun K149 hK149 => ?_
    refine W.region ?_
    refine ops_run 1 (by kernel_rfl) ?_
    refine ops_R (runs_loadAgg (ad := ⟨b4, 0, none⟩) (cs := [(.int .u64 x_.k), (.int .u64 x_.l), (.int .u64 x_.o), (.int .u64 x_.s), (.int .u64 x_.a), (.int .u64 x_.b), (.int .u64 x_.c), (.int .u64 x_.d), (.int .u64 x_.e), (.int .u64 x_.m)]) (by kernel_rfl) (cells_sub (hs21.heapAt 1 rfl) rfl)) ?_
    refine ops_call (pre := []) hs21 (by kernel_rfl) (right_spec (gw := 9) (gi := 3) (gb := 3) (x_ := ⟨x_.k, x_.l, x_.o, x_.s, x_.a, x_.b, x_.c, x_.d, x_.e, x_.m⟩) B _) ?_
    rintro _ _ w150 ⟨rfl, rfl⟩ hs151
    have hs152 : St B w [] w150 [blk b13 (.cells [(.int .i64 1), (.int .i64 (2 + i_ % 20)), (.int .i64 (2 + b_ % 60))].toArray 56 (0, 0)), blk b4 (.cells [(.int .u64 x_.k), (.int .u64 x_.l), (.int .u64 x_.o), (.int .u64 x_.s), (.int .u64 x_.a), (.int .u64 x_.b), (.int .u64 x_.c), (.int .u64 x_.d), (.int .u64 x_.e), (.int .u64 x_.m)].toArray 54 (0, 0))] := hs151
    refine ops_run 2 (by kernel_rfl) ?_
    rcases Bool.eq_false_or_eq_true (!(decide (RightP 9 3 3 ⟨x_.k, x_.l, x_.o, x_.s, x_.a, x_.b, x_.c, x_.d, x_.e, x_.m⟩))) with h153 | h153
    rotate_left
    ·
      have h153p : RightP 9 3 3 ⟨x_.k, x_.l, x_.o, x_.s, x_.a, x_.b, x_.c, x_.d, x_.e, x_.m⟩ := of_decide_eq_true (bnot_false h153)
      replace hm := ite_yes hm h153p
      refine ops_set 24 (v := .bool false) (eq_bool_of (by kernel_rfl) h153) ?_
      refine ops_set 23 (v := .bool false) (eq_bool_of (by kernel_rfl) h153) ?_
      refine ops_run 3 (by kernel_rfl) ?_
      refine ops_done (by kernel_rfl) ?_
      refine hK149 _ _ ?_
      clear hK149
      refine W.ret (ret_seq ?_)
      have hs154 : St B w [] w150 [] := St.take (H := []) hs152
      refine ret_of (.bool false) (by kernel_rfl) ⟨_, ⟨congrArg Value.bool (some_inj hm), rfl⟩, hs154⟩
    ·
      have h153p : ¬ (RightP 9 3 3 ⟨x_.k, x_.l, x_.o, x_.s, x_.a, x_.b, x_.c, x_.d, x_.e, x_.m⟩) := of_decide_eq_false (bnot_true h153)
      replace hm := ite_no hm h153p
      refine ops_set 24 (v := .bool true) (eq_bool_of (by kernel_rfl) h153) ?_
      refine ops_set 23 (v := .bool true) (eq_bool_of (by kernel_rfl) h153) ?_
      refine ops_call (pre := []) hs152 (by kernel_rfl) (works12_spec B _) ?_
      rintro _ _ w155 ⟨rfl, rfl⟩ hs156
      have hs157 : St B w [] w155 [blk b13 (.cells [(.int .i64 1), (.int .i64 (2 + i_ % 20)), (.int .i64 (2 + b_ % 60))].toArray 56 (0, 0)), blk b4 (.cells [(.int .u64 x_.k), (.int .u64 x_.l), (.int .u64 x_.o), (.int .u64 x_.s), (.int .u64 x_.a), (.int .u64 x_.b), (.int .u64 x_.c), (.int .u64 x_.d), (.int .u64 x_.e), (.int .u64 x_.m)].toArray 54 (0, 0))] := hs156
      refine ops_run 2 (by kernel_rfl) ?_
      refine ops_done (by kernel_rfl) ?_
      refine hK149 _ _ ?_
      clear hK149
      refine W.ret (ret_seq ?_)
      have hs158 : St B w [] w155 [] := St.take (H := []) hs157
      refine ret_of (.bool true) (by kernel_rfl) ⟨_, ⟨congrArg Value.bool (some_inj hm), rfl⟩, hs158⟩

end Go.Proofs.Ythimamnblklkbaa
