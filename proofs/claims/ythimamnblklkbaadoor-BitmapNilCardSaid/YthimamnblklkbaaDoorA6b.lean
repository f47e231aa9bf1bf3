/- What the code computes, by a program. -/
import Derived.Test.YthimamnblklkbaaDoorLb
namespace Go.Proofs.YthimamnblklkbaaDoor
open Go Go.RowKit
set_option linter.unusedSimpArgs false
set_option linter.unusedVariables false

def mget_M (img : List Int) (l : List (Int × Int)) (at_ : Int) (many : Int) (i_ : Int) : Option (Bool) :=
  if 0 ≤ i_ ∧ i_ < many then (need (0 ≤ i_ ∧ i_ ≤ 1000000000000 ∧ 0 ≤ at_ ∧ at_ ≤ 1000000000000) <|
some (!decide ((bits .and .u64 (vget img l (at_ + i_ / 64)) (2 ^ (i_ % 64).toNat)) = 0))) else (some false)

set_option maxRecDepth 20000 in
set_option linter.unusedVariables false in
theorem mget_walk {img : List Int} {l : List (Int × Int)} {at_ : Int} {many : Int} {i_ : Int} {mb vb : Nat} {r : Bool} (B : Nat) (w : World) (hmb : w.heap[mb]? = some (.cells [(.pointer (some ⟨vb, 0, none⟩)), (.int .i64 at_), (.int .i64 many)].toArray 151 (0, 0))) (hv : ViewAt (ptr vb) img l w) (hm : mget_M img l at_ many i_ = some r) : Spec Tryd.prog 23 #[(.pointer (some ⟨mb, 0, none⟩)), (.int .i64 i_)] B w [] (fun v H' => v = .bool r ∧ H' = []) := by
  refine spec_Q Tryd.func23 rfl fun hs => ?_
  unfold mget_M at hm
  refine W.seq fun K1 hK1 => ?_
  refine W.region ?_
  refine ops_run 1 (by kernel_rfl) ?_
  refine ops_done (by kernel_rfl) ?_
  refine hK1 _ _ ?_
  clear hK1
  refine W.seq fun K2 hK2 => ?_
  refine W.seq fun K3 hK3 => ?_
  refine W.region ?_
  refine ops_run 2 (by kernel_rfl) ?_
  refine ops_call (pre := []) hs (by kernel_rfl) (mhas_spec (i_ := i_) (hmb := (hs.old hmb)) (hv := (viewAt_old hs hv)) B _) ?_
  rintro _ _ w4 ⟨rfl, rfl⟩ hs5
  have hs6 : St B w [] w4 [] := hs5
  refine ops_run 1 (by kernel_rfl) ?_
  refine ops_done (by kernel_rfl) ?_
  refine hK3 _ _ ?_
  clear hK3
  refine W.cond (!(decide (0 ≤ i_ ∧ i_ < many))) (by kernel_rfl) (fun h7 => ?_) (fun h7 => ?_)
  rotate_left
  ·
    have h7p : 0 ≤ i_ ∧ i_ < many := of_decide_eq_true (bnot_false h7)
    replace hm := ite_yes hm h7p
    refine W.skip ?_
    refine hK2 _ _ ?_
    clear hK2
    refine W.seq fun K8 hK8 => ?_
    refine W.region ?_
    refine ops_run 2 (by kernel_rfl) ?_
    obtain ⟨h9, hm⟩ := need_some hm
    refine ops_call (pre := []) hs6 (by kernel_rfl) (mword_spec (i_ := i_) (hq := h9) (hmb := (hs6.old hmb)) (hv := (viewAt_old hs6 hv)) B _) ?_
    rintro _ _ w10 ⟨rfl, rfl⟩ hs11
    have hs12 : St B w [] w10 [] := hs11
    refine ops_run 5 (by kernel_rfl) ?_
    refine ops_done (by kernel_rfl) ?_
    refine hK8 _ _ ?_
    clear hK8
    refine W.seq fun K13 hK13 => ?_
    refine W.region ?_
    refine ops_run 3 (by kernel_rfl) ?_
    refine ops_R (runs_load (ad := ⟨mb, 0, none⟩) (v := (.pointer (some ⟨vb, 0, none⟩))) (by kernel_rfl) (cell_of_blk (hs12.old hmb) rfl)) ?_
    refine ops_run 1 (by kernel_rfl) ?_
    refine ops_call (pre := []) hs12 (by kernel_rfl) (get_spec (at_ := (at_ + i_ / 64)) (hv := (viewAt_old hs12 hv)) B _) ?_
    rintro _ _ w14 ⟨rfl, rfl⟩ hs15
    have hs16 : St B w [] w14 [] := hs15
    refine ops_run 4 (by kernel_rfl) ?_
    refine ops_done (by kernel_rfl) ?_
    refine hK13 _ _ ?_
    clear hK13
    refine W.ret ?_
    obtain rfl := some_inj hm
    refine ret_of (.bool (!decide ((bits .and .u64 (vget img l (at_ + i_ / 64)) (2 ^ (i_ % 64).toNat)) = 0))) (by kernel_rfl) ⟨_, ⟨rfl, rfl⟩, hs16⟩
  ·
    have h7p : ¬ (0 ≤ i_ ∧ i_ < many) := of_decide_eq_false (bnot_true h7)
    replace hm := ite_no hm h7p
    refine W.seq fun K17 hK17 => ?_
    refine W.region ?_
    refine ops_run 1 (by kernel_rfl) ?_
    refine ops_done (by kernel_rfl) ?_
    refine hK17 _ _ ?_
    clear hK17
    refine W.ret (ret_seq ?_)
    obtain rfl := some_inj hm
    refine ret_of (.bool false) (by kernel_rfl) ⟨_, ⟨rfl, rfl⟩, hs6⟩

def mset_J1 (img : List Int) (l : List (Int × Int)) (at_ : Int) (i_ : Int) (p21 : Int) : Option (Int × List (Int × Int)) :=
  (some (vput img l (at_ + i_ / 64) p21)).bind fun r25 =>
some (r25.1, r25.2)

def mset_M (img : List Int) (l : List (Int × Int)) (at_ : Int) (many : Int) (i_ : Int) (is_ : Bool) : Option (Int × List (Int × Int)) :=
  if 0 ≤ i_ ∧ i_ < many then (need (0 ≤ i_ ∧ i_ ≤ 1000000000000 ∧ 0 ≤ at_ ∧ at_ ≤ 1000000000000) <|
(some (bits .andNot .u64 (vget img l (at_ + i_ / 64)) (2 ^ (i_ % 64).toNat))).bind fun r19 =>
if is_ = true then ((some (bits .or .u64 r19 (2 ^ (i_ % 64).toNat))).bind fun r35 =>
mset_J1 img l at_ i_ r35) else (mset_J1 img l at_ i_ r19)) else (some (8, l))

set_option maxRecDepth 20000 in
set_option linter.unusedVariables false in
theorem mset_walk {img : List Int} {l : List (Int × Int)} {at_ : Int} {many : Int} {i_ : Int} {is_ : Bool} {mb vb : Nat} {r : Int × List (Int × Int)} (B : Nat) (w : World) (hm : mset_M img l at_ many i_ is_ = some r) : Spec Tryd.prog 24 #[(.pointer (some ⟨mb, 0, none⟩)), (.int .i64 i_), (.bool is_)] B w [blk mb (.cells [(.pointer (some ⟨vb, 0, none⟩)), (.int .i64 at_), (.int .i64 many)].toArray 151 (0, 0)), viewA (ptr vb) img l] (fun v H' => v = .int .i64 r.1 ∧ H' = [blk mb (.cells [(.pointer (some ⟨vb, 0, none⟩)), (.int .i64 at_), (.int .i64 many)].toArray 151 (0, 0)), viewA (ptr vb) img r.2]) := by
  refine spec_W Tryd.func24 rfl fun l0 hs => ?_
  unfold mset_M at hm
  refine W.seq fun K1 hK1 => ?_
  refine W.region ?_
  refine ops_run 1 (by kernel_rfl) ?_
  refine ops_done (by kernel_rfl) ?_
  refine hK1 _ _ ?_
  clear hK1
  refine W.seq fun K2 hK2 => ?_
  refine W.seq fun K3 hK3 => ?_
  refine W.region ?_
  refine ops_run 2 (by kernel_rfl) ?_
  refine ops_done (by kernel_rfl) ?_
  refine hK3 _ _ ?_
  clear hK3
  refine W.cond_false false (by kernel_rfl) rfl ?_
  refine W.skip ?_
  refine hK2 _ _ ?_
  clear hK2
  refine W.seq fun K4 hK4 => ?_
  refine W.seq fun K5 hK5 => ?_
  refine W.region ?_
  refine ops_run 2 (by kernel_rfl) ?_
  refine ops_call (pre := []) hs (by kernel_rfl) (mhas_spec (i_ := i_) (hmb := (hs.heapAt 0 rfl)) (hv := (hs.entAt 1 rfl viewA_at)) B _) ?_
  rintro _ _ w6 ⟨rfl, rfl⟩ hs7
  have hs8 : St B w l0 w6 [blk mb (.cells [(.pointer (some ⟨vb, 0, none⟩)), (.int .i64 at_), (.int .i64 many)].toArray 151 (0, 0)), viewA (ptr vb) img l] := hs7
  refine ops_run 1 (by kernel_rfl) ?_
  refine ops_done (by kernel_rfl) ?_
  refine hK5 _ _ ?_
  clear hK5
  refine W.cond (!(decide (0 ≤ i_ ∧ i_ < many))) (by kernel_rfl) (fun h9 => ?_) (fun h9 => ?_)
  rotate_left
  ·
    have h9p : 0 ≤ i_ ∧ i_ < many := of_decide_eq_true (bnot_false h9)
    replace hm := ite_yes hm h9p
    refine W.skip ?_
    refine hK4 _ _ ?_
    clear hK4
    refine W.seq fun K10 hK10 => ?_
    refine W.region ?_
    refine ops_run 2 (by kernel_rfl) ?_
    obtain ⟨h11, hm⟩ := need_some hm
    refine ops_call (pre := []) hs8 (by kernel_rfl) (mword_spec (i_ := i_) (hq := h11) (hmb := (hs8.heapAt 0 rfl)) (hv := (hs8.entAt 1 rfl viewA_at)) B _) ?_
    rintro _ _ w12 ⟨rfl, rfl⟩ hs13
    have hs14 : St B w l0 w12 [blk mb (.cells [(.pointer (some ⟨vb, 0, none⟩)), (.int .i64 at_), (.int .i64 many)].toArray 151 (0, 0)), viewA (ptr vb) img l] := hs13
    refine ops_run 5 (by kernel_rfl) ?_
    refine ops_done (by kernel_rfl) ?_
    refine hK10 _ _ ?_
    clear hK10
    refine W.seq fun K15 hK15 => ?_
    refine W.region ?_
    refine ops_run 3 (by kernel_rfl) ?_
    refine ops_R (runs_load (ad := ⟨mb, 0, none⟩) (v := (.pointer (some ⟨vb, 0, none⟩))) (by kernel_rfl) (hs14.cellAt 0 rfl rfl)) ?_
    refine ops_run 1 (by kernel_rfl) ?_
    refine ops_call (pre := []) hs14 (by kernel_rfl) (get_spec (at_ := (at_ + i_ / 64)) (hv := (hs14.entAt 1 rfl viewA_at)) B _) ?_
    rintro _ _ w16 ⟨rfl, rfl⟩ hs17
    have hs18 : St B w l0 w16 [blk mb (.cells [(.pointer (some ⟨vb, 0, none⟩)), (.int .i64 at_), (.int .i64 many)].toArray 151 (0, 0)), viewA (ptr vb) img l] := hs17
    refine ops_run 3 (by kernel_rfl) ?_
    obtain ⟨r19, h20, hm⟩ := bind_some hm
    replace h20 := some_inj h20
    refine ops_set 9 (v := .int .u64 r19) (Eq.trans (by kernel_rfl) (congrArg (Value.int .u64) h20)) ?_
    refine ops_done (by kernel_rfl) ?_
    refine hK15 _ _ ?_
    clear hK15
    refine W.seq_join (fun s_ w_ => ∃ (p21 : Int), (∃ us, s_ = slots 41 [(0, (.pointer (some ⟨mb, 0, none⟩))), (7, (.int .i64 (at_ + i_ / 64))), (9, (.int .u64 p21))] us) ∧ St B w l0 w_ [viewA (ptr vb) img l, blk mb (.cells [(.pointer (some ⟨vb, 0, none⟩)), (.int .i64 at_), (.int .i64 many)].toArray 151 (0, 0))] ∧ mset_J1 img l at_ i_ p21 = some r) ?_ ?_
    ·
      rintro _ w22 ⟨p21, ⟨us, rfl⟩, hs23, hm⟩
      unfold mset_J1 at hm
      refine W.seq fun K24 hK24 => ?_
      refine W.region ?_
      refine ops_run 3 (by kernel_rfl) ?_
      refine ops_R (runs_load (ad := ⟨mb, 0, none⟩) (v := (.pointer (some ⟨vb, 0, none⟩))) (by kernel_rfl) (hs23.cellAt 1 rfl rfl)) ?_
      refine ops_run 2 (by kernel_rfl) ?_
      obtain ⟨r25, h26, hm⟩ := bind_some hm
      replace h26 := some_inj h26
      refine ops_call (pre := [viewA (ptr vb) img l]) hs23 (by kernel_rfl) (put_spec (p := (.pointer (some ⟨vb, 0, none⟩))) (img := img) (l := l) (at_ := (at_ + i_ / 64)) (x_ := p21) B _) ?_
      rintro _ _ w29 ⟨hv27, hH28⟩ hs30
      rw [h26] at hv27
      try rw [h26] at hH28
      subst hv27 hH28
      have hs31 : St B w l0 w29 [viewA (ptr vb) img r25.2, blk mb (.cells [(.pointer (some ⟨vb, 0, none⟩)), (.int .i64 at_), (.int .i64 many)].toArray 151 (0, 0))] := hs30
      refine ops_run 1 (by kernel_rfl) ?_
      refine ops_done (by kernel_rfl) ?_
      refine hK24 _ _ ?_
      clear hK24
      refine W.ret ?_
      obtain rfl := some_inj hm
      have hs32 : St B w l0 w29 [blk mb (.cells [(.pointer (some ⟨vb, 0, none⟩)), (.int .i64 at_), (.int .i64 many)].toArray 151 (0, 0)), viewA (ptr vb) img r25.2] := hs31.front 1 (by simp)
      refine ret_of (.int .i64 r25.1) (by kernel_rfl) ⟨_, ⟨rfl, rfl⟩, hs32⟩
    ·
      refine W.seq fun K33 hK33 => ?_
      refine W.region ?_
      refine ops_run 1 (by kernel_rfl) ?_
      refine ops_done (by kernel_rfl) ?_
      refine hK33 _ _ ?_
      clear hK33
      refine W.cond is_ (by kernel_rfl) (fun h34 => ?_) (fun h34 => ?_)
      ·
        have h34p : is_ = true := h34
        replace hm := ite_yes hm h34p
        refine W.region ?_
        refine ops_run 4 (by kernel_rfl) ?_
        obtain ⟨r35, h36, hm⟩ := bind_some hm
        replace h36 := some_inj h36
        refine ops_set 9 (v := .int .u64 r35) (Eq.trans (by kernel_rfl) (congrArg (Value.int .u64) h36)) ?_
        refine ops_done (by kernel_rfl) ?_
        have hs37 : St B w l0 w16 [viewA (ptr vb) img l, blk mb (.cells [(.pointer (some ⟨vb, 0, none⟩)), (.int .i64 at_), (.int .i64 many)].toArray 151 (0, 0))] := hs18.front 1 (by simp)
        exact ⟨r35, slots_intro _ (by kernel_rfl), hs37, hm⟩
      ·
        have h34p : ¬ (is_ = true) := ne_true_of_eq_false h34
        replace hm := ite_no hm h34p
        refine W.skip ?_
        have hs38 : St B w l0 w16 [viewA (ptr vb) img l, blk mb (.cells [(.pointer (some ⟨vb, 0, none⟩)), (.int .i64 at_), (.int .i64 many)].toArray 151 (0, 0))] := hs18.front 1 (by simp)
        exact ⟨r19, slots_intro _ (by kernel_rfl), hs38, hm⟩
  ·
    have h9p : ¬ (0 ≤ i_ ∧ i_ < many) := of_decide_eq_false (bnot_true h9)
    replace hm := ite_no hm h9p
    refine W.seq fun K39 hK39 => ?_
    refine W.region ?_
    refine ops_run 1 (by kernel_rfl) ?_
    refine ops_done (by kernel_rfl) ?_
    refine hK39 _ _ ?_
    clear hK39
    refine W.ret (ret_seq ?_)
    obtain rfl := some_inj hm
    refine ret_of (.int .i64 8) (by kernel_rfl) ⟨_, ⟨rfl, rfl⟩, hs8⟩

end Go.Proofs.YthimamnblklkbaaDoor
