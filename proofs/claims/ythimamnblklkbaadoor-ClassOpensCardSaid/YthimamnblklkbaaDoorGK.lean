/- Texts of one kind, one behind the other: A0g, A0h, A0p, A0q, A0s. -/
import Derived.Test.YthimamnblklkbaaDoorGJ
import Derived.Test.YthimamnblklkbaaDoorGC
import Derived.Test.YthimamnblklkbaaDoorGI
set_option linter.unusedVariables false
set_option linter.unusedSimpArgs false
/- What the code computes, by a program. -/
namespace Go.Proofs.YthimamnblklkbaaDoor
open Go Go.RowKit
set_option linter.unusedSimpArgs false
set_option linter.unusedVariables false

def rthere_M (img : List Int) (i_ : Int) (k_ : Int) : Option (Int) :=
  if i_ < 0 then (some 1) else (if i_ ≥ 4 then (some 1) else (if k_ < 0 then (some 1) else (if k_ ≥ 4 then (some 1) else (need (-9223372036854775808 ≤ ((sessAt i_) + 64) ∧ ((sessAt i_) + 64) ≤ 9223372036854775807) <|
if (img.length : Int) < ((sessAt i_) + 64) then (some 8) else (some 0)))))

set_option maxRecDepth 20000 in
set_option maxHeartbeats 2000000 in
set_option linter.unusedVariables false in
theorem rthere_walk {img : List Int} {l : List (Int × Int)} {i_ : Int} {k_ : Int} {p : Value} {r : Int} (B : Nat) (w : World) (hv : RefAt p img l w) (hm : rthere_M img i_ k_ = some r) : Spec Tryd.prog 108 #[p, (.int .i64 i_), (.int .i64 k_)] B w [] (fun v H' => v = (.int .i64 r) ∧ H' = []) := by
  refine spec_Q Tryd.func108 rfl fun hs => ?_
  unfold rthere_M at hm
  have hv0 := hv
  obtain ⟨x, rfl, hok, hb, hi, ho, hcap⟩ := hv
  have hroom := hok.many
  have hroom2 := hok.size
  refine W.seq fun K1 hK1 => ?_
  refine W.region ?_
  refine ops_run 1 (by kernel_rfl) ?_
  refine ops_done (by kernel_rfl) ?_
  refine hK1 _ _ ?_
  clear hK1
  refine W.seq fun K2 hK2 => ?_
  refine W.seq fun K3 hK3 => ?_
  refine W.region ?_
  refine ops_run 3 (by kernel_rfl) ?_
  rcases Bool.eq_false_or_eq_true (decide (i_ < 0)) with h4 | h4
  ·
    have h4p : i_ < 0 := of_decide_eq_true h4
    replace hm := ite_yes hm h4p
    refine ops_set 9 (v := .bool true) (eq_bool_of (by kernel_rfl) h4) ?_
    refine ops_set 8 (v := .bool true) (eq_bool_of (by kernel_rfl) h4) ?_
    refine ops_run 11 (by kernel_rfl) ?_
    refine ops_done (by kernel_rfl) ?_
    refine hK3 _ _ ?_
    clear hK3
    refine W.cond_true true (by kernel_rfl) rfl ?_
    refine W.seq fun K5 hK5 => ?_
    refine W.region ?_
    refine ops_run 1 (by kernel_rfl) ?_
    refine ops_done (by kernel_rfl) ?_
    refine hK5 _ _ ?_
    clear hK5
    refine W.ret (ret_seq ?_)
    obtain rfl := some_inj hm
    refine ret_of (.int .i64 1) (by kernel_rfl) ⟨_, ⟨rfl, rfl⟩, hs⟩
  ·
    have h4p : ¬ (i_ < 0) := of_decide_eq_false h4
    replace hm := ite_no hm h4p
    refine ops_set 9 (v := .bool false) (eq_bool_of (by kernel_rfl) h4) ?_
    refine ops_set 8 (v := .bool false) (eq_bool_of (by kernel_rfl) h4) ?_
    refine ops_run 4 (by kernel_rfl) ?_
    rcases Bool.eq_false_or_eq_true (decide (i_ ≥ 4)) with h6 | h6
    ·
      have h6p : i_ ≥ 4 := of_decide_eq_true h6
      replace hm := ite_yes hm h6p
      refine ops_set 13 (v := .bool true) (eq_bool_of (by kernel_rfl) h6) ?_
      refine ops_set 11 (v := .bool true) (eq_bool_of (by kernel_rfl) h6) ?_
      refine ops_set 12 (v := .bool true) (eq_bool_of (by kernel_rfl) h6) ?_
      refine ops_run 7 (by kernel_rfl) ?_
      refine ops_done (by kernel_rfl) ?_
      refine hK3 _ _ ?_
      clear hK3
      refine W.cond_true true (by kernel_rfl) rfl ?_
      refine W.seq fun K7 hK7 => ?_
      refine W.region ?_
      refine ops_run 1 (by kernel_rfl) ?_
      refine ops_done (by kernel_rfl) ?_
      refine hK7 _ _ ?_
      clear hK7
      refine W.ret (ret_seq ?_)
      obtain rfl := some_inj hm
      refine ret_of (.int .i64 1) (by kernel_rfl) ⟨_, ⟨rfl, rfl⟩, hs⟩
    ·
      have h6p : ¬ (i_ ≥ 4) := of_decide_eq_false h6
      replace hm := ite_no hm h6p
      refine ops_set 13 (v := .bool false) (eq_bool_of (by kernel_rfl) h6) ?_
      refine ops_set 11 (v := .bool false) (eq_bool_of (by kernel_rfl) h6) ?_
      refine ops_set 12 (v := .bool false) (eq_bool_of (by kernel_rfl) h6) ?_
      refine ops_run 4 (by kernel_rfl) ?_
      rcases Bool.eq_false_or_eq_true (decide (k_ < 0)) with h8 | h8
      ·
        have h8p : k_ < 0 := of_decide_eq_true h8
        replace hm := ite_yes hm h8p
        refine ops_set 17 (v := .bool true) (eq_bool_of (by kernel_rfl) h8) ?_
        refine ops_set 15 (v := .bool true) (eq_bool_of (by kernel_rfl) h8) ?_
        refine ops_set 16 (v := .bool true) (eq_bool_of (by kernel_rfl) h8) ?_
        refine ops_run 3 (by kernel_rfl) ?_
        refine ops_done (by kernel_rfl) ?_
        refine hK3 _ _ ?_
        clear hK3
        refine W.cond_true true (by kernel_rfl) rfl ?_
        refine W.seq fun K9 hK9 => ?_
        refine W.region ?_
        refine ops_run 1 (by kernel_rfl) ?_
        refine ops_done (by kernel_rfl) ?_
        refine hK9 _ _ ?_
        clear hK9
        refine W.ret (ret_seq ?_)
        obtain rfl := some_inj hm
        refine ret_of (.int .i64 1) (by kernel_rfl) ⟨_, ⟨rfl, rfl⟩, hs⟩
      ·
        have h8p : ¬ (k_ < 0) := of_decide_eq_false h8
        replace hm := ite_no hm h8p
        refine ops_set 17 (v := .bool false) (eq_bool_of (by kernel_rfl) h8) ?_
        refine ops_set 15 (v := .bool false) (eq_bool_of (by kernel_rfl) h8) ?_
        refine ops_set 16 (v := .bool false) (eq_bool_of (by kernel_rfl) h8) ?_
        refine ops_run 3 (by kernel_rfl) ?_
        refine ops_done (by kernel_rfl) ?_
        refine hK3 _ _ ?_
        clear hK3
        refine W.cond (decide (k_ ≥ 4)) (by kernel_rfl) (fun h10 => ?_) (fun h10 => ?_)
        ·
          have h10p : k_ ≥ 4 := of_decide_eq_true h10
          replace hm := ite_yes hm h10p
          refine W.seq fun K11 hK11 => ?_
          refine W.region ?_
          refine ops_run 1 (by kernel_rfl) ?_
          refine ops_done (by kernel_rfl) ?_
          refine hK11 _ _ ?_
          clear hK11
          refine W.ret (ret_seq ?_)
          obtain rfl := some_inj hm
          refine ret_of (.int .i64 1) (by kernel_rfl) ⟨_, ⟨rfl, rfl⟩, hs⟩
        ·
          have h10p : ¬ (k_ ≥ 4) := of_decide_eq_false h10
          replace hm := ite_no hm h10p
          refine W.skip ?_
          refine hK2 _ _ ?_
          clear hK2
          refine W.seq fun K12 hK12 => ?_
          refine W.seq fun K13 hK13 => ?_
          have hs14 := hs.drew
          refine W.regionD [(0, 0), (1, 1), (2, 2), (4, 4), (8, 8), (0, 0), (32, 32), (64, 64), (144, 144)] (fun w_ => St B w [] w_ []) (by kernel_rfl) hs14 ?_
          refine any_val (v := (.pointer (some ⟨x.b, 0, none⟩))) (v' := (.pointer (some ⟨x.b, 0, none⟩))) 0 (by kernel_rfl) (fun _ => by kernel_rfl) rfl hs14 ?_
          refine any_val (v := (.pointer (some ⟨x.b, 0, none⟩))) (v' := (.pointer (some ⟨x.b, 0, none⟩))) 1 (by kernel_rfl) (fun _ => by kernel_rfl) rfl hs14 ?_
          refine any_val (v := (.pointer (some ⟨x.b, 0, none⟩))) (v' := (.pointer (some ⟨x.b, 0, none⟩))) 2 (by kernel_rfl) (fun _ => by kernel_rfl) rfl hs14 ?_
          refine any_R 3 (by kernel_rfl) (fun _ hS_ => runs_load (ad := ⟨x.b, 0, none⟩) (v := (.slice x.ia img.length x.ic)) (by kernel_rfl) (cell_of_blk (hS_.old hb) rfl)) hs14 ?_
          refine any_val (v := (.int .i64 (img.length : Int))) (v' := (.int .i64 (img.length : Int))) 4 (by kernel_rfl) (fun _ => by kernel_rfl) rfl hs14 ?_
          refine any_val (v := (.int .i64 i_)) (v' := (.int .i64 i_)) 5 (by kernel_rfl) (fun _ => by kernel_rfl) rfl hs14 ?_
          refine any_step 6 (by kernel_rfl) (by kernel_rfl) ?_
          refine ops_call0 hs14 (by kernel_rfl) (rsess_spec (i_ := i_) B _) ?_
          rintro _ _ w15 ⟨rfl, rfl⟩ hs16
          have hs17 := St.ap0 hs16
          refine ops_done (by kernel_rfl) ⟨hs17, ?_⟩
          obtain ⟨h18, hm⟩ := need_some hm
          refine any_val (v := .int .i64 (IntKind.i64.wrap ((sessAt i_) + 64))) (v' := .int .i64 ((sessAt i_) + 64)) 7 (by kernel_rfl) (fun _ => by kernel_rfl) (congrArg (Value.int .i64) (wrap_i64 h18.1 h18.2)) hs17 ?_
          refine any_val (v := (.bool (decide ((img.length : Int) < ((sessAt i_) + 64))))) (v' := (.bool (decide ((img.length : Int) < ((sessAt i_) + 64))))) 8 (by kernel_rfl) (fun _ => by kernel_rfl) rfl hs17 ?_
          refine any_done (by kernel_rfl) ?_
          refine hK13 _ _ ?_
          clear hK13
          refine W.cond (decide ((img.length : Int) < ((sessAt i_) + 64))) (by kernel_rfl) (fun h19 => ?_) (fun h19 => ?_)
          ·
            have h19p : (img.length : Int) < ((sessAt i_) + 64) := of_decide_eq_true h19
            replace hm := ite_yes hm h19p
            refine W.seq fun K20 hK20 => ?_
            refine W.region ?_
            refine ops_run 1 (by kernel_rfl) ?_
            refine ops_done (by kernel_rfl) ?_
            refine hK20 _ _ ?_
            clear hK20
            refine W.ret (ret_seq ?_)
            obtain rfl := some_inj hm
            refine ret_of (.int .i64 8) (by kernel_rfl) ⟨_, ⟨rfl, rfl⟩, hs17⟩
          ·
            have h19p : ¬ ((img.length : Int) < ((sessAt i_) + 64)) := of_decide_eq_false h19
            replace hm := ite_no hm h19p
            refine W.skip ?_
            refine hK12 _ _ ?_
            clear hK12
            refine W.seq fun K21 hK21 => ?_
            refine W.region ?_
            refine ops_run 1 (by kernel_rfl) ?_
            refine ops_done (by kernel_rfl) ?_
            refine hK21 _ _ ?_
            clear hK21
            refine W.ret ?_
            obtain rfl := some_inj hm
            refine ret_of (.int .i64 0) (by kernel_rfl) ⟨_, ⟨rfl, rfl⟩, hs17⟩

end Go.Proofs.YthimamnblklkbaaDoor

/- What the code computes, by a program. -/
namespace Go.Proofs.YthimamnblklkbaaDoor
open Go Go.RowKit
set_option linter.unusedSimpArgs false
set_option linter.unusedVariables false

def rget10_M (img : List Int) (l : List (Int × Int)) (i_ : Int) : Option (Bool × Int × Int × Int) :=
  (rthere_M img i_ 0).bind fun r6 =>
if r6 = 0 then (if (vget img l (sessAt i_)) > 1 then (some (false, 0, 0, 4)) else (need (-9223372036854775808 ≤ ((sessAt i_) + 1) ∧ ((sessAt i_) + 1) ≤ 9223372036854775807) <|
need (-9223372036854775808 ≤ ((sessAt i_) + 2) ∧ ((sessAt i_) + 2) ≤ 9223372036854775807) <|
some (decide ((vget img l (sessAt i_)) = 1), (vget img l ((sessAt i_) + 1)), (vget img l ((sessAt i_) + 2)), 0))) else (some (false, 0, 0, r6))

set_option maxRecDepth 20000 in
set_option maxHeartbeats 2000000 in
set_option linter.unusedVariables false in
theorem rget10_walk {img : List Int} {l : List (Int × Int)} {i_ : Int} {p : Value} {r : Bool × Int × Int × Int} (B : Nat) (w : World) (hv : RefAt p img l w) (hm : rget10_M img l i_ = some r) : Spec Tryd.prog 44 #[p, (.int .i64 i_)] B w [] (fun v H' => v = (.tuple #[(.agg #[(.bool r.1), (.int .u64 r.2.1), (.int .u64 r.2.2.1)]), (.int .i64 r.2.2.2)]) ∧ H' = []) := by
  refine spec_Q Tryd.func44 rfl fun hs => ?_
  unfold rget10_M at hm
  have hv0 := hv
  obtain ⟨x, rfl, hok, hb, hi, ho, hcap⟩ := hv
  have hroom := hok.many
  have hroom2 := hok.size
  refine W.seq fun K1 hK1 => ?_
  refine W.region ?_
  refine ops_new (fun b => .pointer (some ⟨b, 0, none⟩)) (.cells [(.bool false), (.int .u64 0), (.int .u64 0)].toArray 73 (0, 0)) hs (by kernel_rfl) (fun b4 w2 hs3 => ?_)
  refine ops_run 1 (by kernel_rfl) ?_
  refine ops_done (by kernel_rfl) ?_
  refine hK1 _ _ ?_
  clear hK1
  refine W.seq fun K5 hK5 => ?_
  refine W.region ?_
  refine ops_run 2 (by kernel_rfl) ?_
  obtain ⟨r6, h7, hm⟩ := bind_some hm
  refine ops_call0 hs3 (by kernel_rfl) (rthere_walk (i_ := i_) (k_ := 0) (img := img) (l := l) (hv := (refAt_old hs3 hv0)) (hm := h7) B _) ?_
  rintro _ _ w8 ⟨rfl, rfl⟩ hs9
  have hs10 := St.ap0 hs9
  refine ops_run 1 (by kernel_rfl) ?_
  refine ops_done (by kernel_rfl) ?_
  refine hK5 _ _ ?_
  clear hK5
  refine W.seq fun K11 hK11 => ?_
  refine W.seq fun K12 hK12 => ?_
  refine W.region ?_
  refine ops_run 2 (by kernel_rfl) ?_
  refine ops_done (by kernel_rfl) ?_
  refine hK12 _ _ ?_
  clear hK12
  refine W.cond (!decide (r6 = 0)) (by kernel_rfl) (fun h13 => ?_) (fun h13 => ?_)
  rotate_left
  ·
    have h13p : r6 = 0 := of_decide_eq_true (bnot_false h13)
    replace hm := ite_yes hm h13p
    refine W.skip ?_
    refine hK11 _ _ ?_
    clear hK11
    refine W.seq fun K14 hK14 => ?_
    refine W.region ?_
    refine ops_run 1 (by kernel_rfl) ?_
    refine ops_call0 hs10 (by kernel_rfl) (rsess_spec (i_ := i_) B _) ?_
    rintro _ _ w15 ⟨rfl, rfl⟩ hs16
    have hs17 := St.ap0 hs16
    refine ops_run 1 (by kernel_rfl) ?_
    refine ops_done (by kernel_rfl) ?_
    refine hK14 _ _ ?_
    clear hK14
    refine W.seq fun K18 hK18 => ?_
    refine W.seq fun K19 hK19 => ?_
    refine W.region ?_
    refine ops_run 2 (by kernel_rfl) ?_
    refine ops_call0 hs17 (by kernel_rfl) (rget_spec (at_ := (sessAt i_)) (hv := (refAt_old hs17 hv0)) B _) ?_
    rintro _ _ w20 ⟨rfl, rfl⟩ hs21
    have hs22 := St.ap0 hs21
    refine ops_run 1 (by kernel_rfl) ?_
    refine ops_done (by kernel_rfl) ?_
    refine hK19 _ _ ?_
    clear hK19
    refine W.cond (decide ((vget img l (sessAt i_)) > 1)) (by kernel_rfl) (fun h23 => ?_) (fun h23 => ?_)
    ·
      have h23p : (vget img l (sessAt i_)) > 1 := of_decide_eq_true h23
      replace hm := ite_yes hm h23p
      refine W.seq fun K24 hK24 => ?_
      refine W.region ?_
      refine ops_run 1 (by kernel_rfl) ?_
      refine ops_store (off := 0) (cs := [(.bool false), (.int .u64 0), (.int .u64 0)]) (vs := [(.bool false), (.int .u64 0), (.int .u64 0)]) hs22 (by kernel_rfl) (by simp) rfl (fun w25 hs26 => ?_)
      have hs27 : St B w [] w25 [blk b4 (.cells [(.bool false), (.int .u64 0), (.int .u64 0)].toArray 73 (0, 0))] := hs26
      refine ops_run 1 (by kernel_rfl) ?_
      refine ops_done (by kernel_rfl) ?_
      refine hK24 _ _ ?_
      clear hK24
      refine W.ret (ret_seq ?_)
      obtain rfl := some_inj hm
      have hs28 := St.tk0 hs27
      refine ret_of (.tuple #[(.agg #[(.bool false), (.int .u64 0), (.int .u64 0)]), (.int .i64 4)]) (resS_of (by kernel_rfl) (resD_two rfl (.agg (ad := ⟨b4, 0, none⟩) (cs := [(.bool false), (.int .u64 0), (.int .u64 0)]) (by kernel_rfl) (by kernel_rfl) (cells_sub (hs27.heapAt 0 rfl) rfl)) (.tmp (by kernel_rfl)))) ⟨_, ⟨rfl, rfl⟩, hs28⟩
    ·
      have h23p : ¬ ((vget img l (sessAt i_)) > 1) := of_decide_eq_false h23
      replace hm := ite_no hm h23p
      refine W.skip ?_
      refine hK18 _ _ ?_
      clear hK18
      refine W.seq fun K29 hK29 => ?_
      refine W.region ?_
      refine ops_run 2 (by kernel_rfl) ?_
      refine ops_call0 hs22 (by kernel_rfl) (rget_spec (at_ := (sessAt i_)) (hv := (refAt_old hs22 hv0)) B _) ?_
      rintro _ _ w30 ⟨rfl, rfl⟩ hs31
      have hs32 := St.ap0 hs31
      refine ops_run 3 (by kernel_rfl) ?_
      obtain ⟨h33, hm⟩ := need_some hm
      refine ops_val (v := .int .i64 (IntKind.i64.wrap ((sessAt i_) + 1))) (v' := .int .i64 ((sessAt i_) + 1)) (by kernel_rfl) (congrArg (Value.int .i64) (wrap_i64 h33.1 h33.2)) ?_
      refine ops_call0 hs32 (by kernel_rfl) (rget_spec (at_ := ((sessAt i_) + 1)) (hv := (refAt_old hs32 hv0)) B _) ?_
      rintro _ _ w34 ⟨rfl, rfl⟩ hs35
      have hs36 := St.ap0 hs35
      refine ops_run 2 (by kernel_rfl) ?_
      obtain ⟨h37, hm⟩ := need_some hm
      refine ops_val (v := .int .i64 (IntKind.i64.wrap ((sessAt i_) + 2))) (v' := .int .i64 ((sessAt i_) + 2)) (by kernel_rfl) (congrArg (Value.int .i64) (wrap_i64 h37.1 h37.2)) ?_
      refine ops_call0 hs36 (by kernel_rfl) (rget_spec (at_ := ((sessAt i_) + 2)) (hv := (refAt_old hs36 hv0)) B _) ?_
      rintro _ _ w38 ⟨rfl, rfl⟩ hs39
      have hs40 := St.ap0 hs39
      refine ops_run 1 (by kernel_rfl) ?_
      refine ops_store (off := 0) (cs := [(.bool false), (.int .u64 0), (.int .u64 0)]) (vs := [(.bool (decide ((vget img l (sessAt i_)) = 1))), (.int .u64 (vget img l ((sessAt i_) + 1))), (.int .u64 (vget img l ((sessAt i_) + 2)))]) hs40 (by kernel_rfl) (by simp) rfl (fun w41 hs42 => ?_)
      have hs43 : St B w [] w41 [blk b4 (.cells [(.bool (decide ((vget img l (sessAt i_)) = 1))), (.int .u64 (vget img l ((sessAt i_) + 1))), (.int .u64 (vget img l ((sessAt i_) + 2)))].toArray 73 (0, 0))] := hs42
      refine ops_run 1 (by kernel_rfl) ?_
      refine ops_done (by kernel_rfl) ?_
      refine hK29 _ _ ?_
      clear hK29
      refine W.ret ?_
      obtain rfl := some_inj hm
      have hs44 := St.tk0 hs43
      refine ret_of (.tuple #[(.agg #[(.bool (decide ((vget img l (sessAt i_)) = 1))), (.int .u64 (vget img l ((sessAt i_) + 1))), (.int .u64 (vget img l ((sessAt i_) + 2)))]), (.int .i64 0)]) (resS_of (by kernel_rfl) (resD_two rfl (.agg (ad := ⟨b4, 0, none⟩) (cs := [(.bool (decide ((vget img l (sessAt i_)) = 1))), (.int .u64 (vget img l ((sessAt i_) + 1))), (.int .u64 (vget img l ((sessAt i_) + 2)))]) (by kernel_rfl) (by kernel_rfl) (cells_sub (hs43.heapAt 0 rfl) rfl)) (.tmp (by kernel_rfl)))) ⟨_, ⟨rfl, rfl⟩, hs44⟩
  ·
    have h13p : ¬ (r6 = 0) := of_decide_eq_false (bnot_true h13)
    replace hm := ite_no hm h13p
    refine W.seq fun K45 hK45 => ?_
    refine W.region ?_
    refine ops_run 2 (by kernel_rfl) ?_
    refine ops_store (off := 0) (cs := [(.bool false), (.int .u64 0), (.int .u64 0)]) (vs := [(.bool false), (.int .u64 0), (.int .u64 0)]) hs10 (by kernel_rfl) (by simp) rfl (fun w46 hs47 => ?_)
    have hs48 : St B w [] w46 [blk b4 (.cells [(.bool false), (.int .u64 0), (.int .u64 0)].toArray 73 (0, 0))] := hs47
    refine ops_run 1 (by kernel_rfl) ?_
    refine ops_done (by kernel_rfl) ?_
    refine hK45 _ _ ?_
    clear hK45
    refine W.ret (ret_seq ?_)
    obtain rfl := some_inj hm
    have hs49 := St.tk0 hs48
    refine ret_of (.tuple #[(.agg #[(.bool false), (.int .u64 0), (.int .u64 0)]), (.int .i64 r6)]) (resS_of (by kernel_rfl) (resD_two rfl (.agg (ad := ⟨b4, 0, none⟩) (cs := [(.bool false), (.int .u64 0), (.int .u64 0)]) (by kernel_rfl) (by kernel_rfl) (cells_sub (hs48.heapAt 0 rfl) rfl)) (.tmp (by kernel_rfl)))) ⟨_, ⟨rfl, rfl⟩, hs49⟩

def rput10_J1 (img : List Int) (l : List (Int × Int)) (i_ : Int) (hg_ : Int) (hk_ : Int) (p15 : Int) : Option (Int × List (Int × Int)) :=
  need (-1 ≤ (sessAt i_) ∧ (sessAt i_) ≤ 1000000) <|
(some (vwrites img (sessAt i_) l 0 ([p15, hg_, hk_]))).bind fun r34 =>
some (r34.1, r34.2)

def rput10_M (img : List Int) (l : List (Int × Int)) (i_ : Int) (ho_ : Bool) (hg_ : Int) (hk_ : Int) : Option (Int × List (Int × Int)) :=
  (rthere_M img i_ 0).bind fun r6 =>
if r6 = 0 then (if ho_ = true then (rput10_J1 img l i_ hg_ hk_ 1) else (rput10_J1 img l i_ hg_ hk_ 0)) else (some (r6, l))

set_option maxRecDepth 20000 in
set_option maxHeartbeats 2000000 in
set_option linter.unusedVariables false in
theorem rput10_walk {img : List Int} {l : List (Int × Int)} {i_ : Int} {ho_ : Bool} {hg_ : Int} {hk_ : Int} {vb : Nat} {r : Int × List (Int × Int)} (B : Nat) (w : World) (hm : rput10_M img l i_ ho_ hg_ hk_ = some r) : Spec Tryd.prog 45 #[(.pointer (some ⟨vb, 0, none⟩)), (.int .i64 i_), (.agg #[(.bool ho_), (.int .u64 hg_), (.int .u64 hk_)])] B w [refA (ptr vb) img l] (fun v H' => v = (.int .i64 r.1) ∧ H' = [refA (ptr vb) img r.2]) := by
  refine spec_W Tryd.func45 rfl fun l0 hs => ?_
  unfold rput10_M at hm
  refine W.seq fun K1 hK1 => ?_
  refine W.region ?_
  refine ops_new (fun b => .pointer (some ⟨b, 0, none⟩)) (.cells [(.bool ho_), (.int .u64 hg_), (.int .u64 hk_)].toArray 73 (0, 0)) hs (by kernel_rfl) (fun b4 w2 hs3 => ?_)
  refine ops_run 1 (by kernel_rfl) ?_
  refine ops_done (by kernel_rfl) ?_
  refine hK1 _ _ ?_
  clear hK1
  refine W.seq fun K5 hK5 => ?_
  refine W.region ?_
  refine ops_run 2 (by kernel_rfl) ?_
  obtain ⟨r6, h7, hm⟩ := bind_some hm
  refine ops_call0 hs3 (by kernel_rfl) (rthere_walk (i_ := i_) (k_ := 0) (img := img) (l := l) (hv := (hs3.entAt 1 rfl refA_at)) (hm := h7) B _) ?_
  rintro _ _ w8 ⟨rfl, rfl⟩ hs9
  have hs10 := St.ap0 hs9
  refine ops_run 1 (by kernel_rfl) ?_
  refine ops_done (by kernel_rfl) ?_
  refine hK5 _ _ ?_
  clear hK5
  refine W.seq fun K11 hK11 => ?_
  refine W.seq fun K12 hK12 => ?_
  refine W.region ?_
  refine ops_run 2 (by kernel_rfl) ?_
  refine ops_done (by kernel_rfl) ?_
  refine hK12 _ _ ?_
  clear hK12
  refine W.cond (!decide (r6 = 0)) (by kernel_rfl) (fun h13 => ?_) (fun h13 => ?_)
  rotate_left
  ·
    have h13p : r6 = 0 := of_decide_eq_true (bnot_false h13)
    replace hm := ite_yes hm h13p
    refine W.skip ?_
    refine hK11 _ _ ?_
    clear hK11
    refine W.seq fun K14 hK14 => ?_
    refine W.region ?_
    refine ops_run 1 (by kernel_rfl) ?_
    refine ops_done (by kernel_rfl) ?_
    refine hK14 _ _ ?_
    clear hK14
    refine W.seq_join (fun s_ w_ => ∃ (p15 : Int), (∃ us, s_ = slots 27 [(0, (.pointer (some ⟨vb, 0, none⟩))), (1, (.int .i64 i_)), (5, (.pointer (some ⟨b4, 0, none⟩))), (8, (.int .u64 p15))] us) ∧ St B w l0 w_ [refA (ptr vb) img l, blk b4 (.cells [(.bool ho_), (.int .u64 hg_), (.int .u64 hk_)].toArray 73 (0, 0))] ∧ rput10_J1 img l i_ hg_ hk_ p15 = some r) ?_ ?_
    ·
      rintro _ w16 ⟨p15, ⟨us, rfl⟩, hs17, hm⟩
      unfold rput10_J1 at hm
      refine W.seq fun K18 hK18 => ?_
      have hs19 := hs17.drew
      have hs20 := St.f1 hs19
      have hs21 := St.tk1 hs20
      refine W.regionD [(0, 0), (0, 0), (2, 2), (0, 0), (0, 0), (16, 16), (0, 0), (64, 64), (168, 168), (261, 261), (1023, 512)] (fun w_ => St B w l0 w_ [blk b4 (.cells [(.bool ho_), (.int .u64 hg_), (.int .u64 hk_)].toArray 73 (0, 0))]) (by kernel_rfl) hs21 ?_
      refine any_val (v := (.pointer (some ⟨vb, 0, none⟩))) (v' := (.pointer (some ⟨vb, 0, none⟩))) 0 (by kernel_rfl) (fun _ => by kernel_rfl) rfl hs21 ?_
      refine any_val (v := (.int .i64 i_)) (v' := (.int .i64 i_)) 1 (by kernel_rfl) (fun _ => by kernel_rfl) rfl hs21 ?_
      refine any_val (v := (.int .u64 p15)) (v' := (.int .u64 p15)) 3 (by kernel_rfl) (fun _ => by kernel_rfl) rfl hs21 ?_
      refine any_val (v := (.pointer (some ⟨b4, 1, none⟩))) (v' := (.pointer (some ⟨b4, 1, none⟩))) 4 (by kernel_rfl) (fun _ => by kernel_rfl) rfl hs21 ?_
      refine any_R 5 (by kernel_rfl) (fun _ hS_ => runs_load (ad := ⟨b4, 1, none⟩) (v := (.int .u64 hg_)) (by kernel_rfl) (hS_.cellAt 0 rfl rfl)) hs21 ?_
      refine any_val (v := (.pointer (some ⟨b4, 2, none⟩))) (v' := (.pointer (some ⟨b4, 2, none⟩))) 6 (by kernel_rfl) (fun _ => by kernel_rfl) rfl hs21 ?_
      refine any_R 7 (by kernel_rfl) (fun _ hS_ => runs_load (ad := ⟨b4, 2, none⟩) (v := (.int .u64 hk_)) (by kernel_rfl) (hS_.cellAt 0 rfl rfl)) hs21 ?_
      refine any_step2 2 8 (by kernel_rfl) (by kernel_rfl) (by kernel_rfl) ?_ ?_
      ·
        refine ops_call0 hs19 (by kernel_rfl) (rsess_spec (i_ := i_) B _) ?_
        rintro _ _ w22 ⟨rfl, rfl⟩ hs23
        have hs24 := St.ap0 hs23
        have hs25 := St.f1 hs24
        have hs26 := St.tk1 hs25
        refine ops_done (by kernel_rfl) ⟨hs26, ?_⟩
        refine any_step 8 (by kernel_rfl) (by kernel_rfl) ?_
        refine ops_new (fun b => .slice (some ⟨b, 0, none⟩) 3 3) (.cells [(.int .u64 p15), (.int .u64 hg_), (.int .u64 hk_)].toArray 38 (0, 0)) hs24 (by kernel_rfl) (fun b29 w27 hs28 => ?_)
        have hs30 := St.f2 hs28
        have hs31 := St.tk1 hs30
        refine ops_done (by kernel_rfl) ⟨hs31, ?_⟩
        refine any_step 9 (by kernel_rfl) (by kernel_rfl) ?_
        have hs32 : St B w l0 w27 [kU64.row (some ⟨b29, 0, none⟩) 3 ([p15, hg_, hk_]), refA (ptr vb) img l, blk b4 (.cells [(.bool ho_), (.int .u64 hg_), (.int .u64 hk_)].toArray 73 (0, 0))] := St.kblk kU64 [p15, hg_, hk_] hs28 rfl rfl (by simp only [List.length_cons, List.length_nil]; decide)
        obtain ⟨h33, hm⟩ := need_some hm
        obtain ⟨r34, h35, hm⟩ := bind_some hm
        replace h35 := some_inj h35
        have hs38 := St.f1 hs32
        refine ops_call2 hs38 (by kernel_rfl) (rall_spec (b := vb) (img := img) (l := l) (at_ := (sessAt i_)) (la := (some ⟨b29, 0, none⟩)) (lc := 3) (ws := [p15, hg_, hk_]) (n := 3) (hn := rfl) (hsz := (by simp only [List.length_cons, List.length_nil]; omega)) (hat := h33) B _) ?_
        rintro _ _ w39 ⟨hv36, hH37⟩ hs40
        rw [h35] at hv36
        try rw [h35] at hH37
        subst hv36 hH37
        have hs41 := St.ap1 hs40
        have hs42 := St.f1 hs41
        have hs43 := St.tk1 hs42
        refine ops_done (by kernel_rfl) ⟨hs43, ?_⟩
        refine any_val (v := (.int .i64 r34.1)) (v' := (.int .i64 r34.1)) 10 (by kernel_rfl) (fun _ => by kernel_rfl) rfl hs43 ?_
        refine any_done (by kernel_rfl) ?_
        refine hK18 _ _ ?_
        clear hK18
        refine W.ret ?_
        obtain rfl := some_inj hm
        have hs44 := St.tk1 hs41
        refine ret_of (.int .i64 r34.1) (by kernel_rfl) ⟨_, ⟨rfl, rfl⟩, hs44⟩
      ·
        refine ops_new (fun b => .slice (some ⟨b, 0, none⟩) 3 3) (.cells [(.int .u64 p15), (.int .u64 hg_), (.int .u64 hk_)].toArray 38 (0, 0)) hs19 (by kernel_rfl) (fun b47 w45 hs46 => ?_)
        have hs48 := St.f2 hs46
        have hs49 := St.tk1 hs48
        refine ops_done (by kernel_rfl) ⟨hs49, ?_⟩
        refine any_step 2 (by kernel_rfl) (by kernel_rfl) ?_
        refine ops_call0 hs46 (by kernel_rfl) (rsess_spec (i_ := i_) B _) ?_
        rintro _ _ w50 ⟨rfl, rfl⟩ hs51
        have hs52 := St.ap0 hs51
        have hs53 := St.f2 hs52
        have hs54 := St.tk1 hs53
        refine ops_done (by kernel_rfl) ⟨hs54, ?_⟩
        refine any_step 9 (by kernel_rfl) (by kernel_rfl) ?_
        have hs55 : St B w l0 w50 [kU64.row (some ⟨b47, 0, none⟩) 3 ([p15, hg_, hk_]), refA (ptr vb) img l, blk b4 (.cells [(.bool ho_), (.int .u64 hg_), (.int .u64 hk_)].toArray 73 (0, 0))] := St.kblk kU64 [p15, hg_, hk_] hs52 rfl rfl (by simp only [List.length_cons, List.length_nil]; decide)
        obtain ⟨h56, hm⟩ := need_some hm
        obtain ⟨r57, h58, hm⟩ := bind_some hm
        replace h58 := some_inj h58
        have hs61 := St.f1 hs55
        refine ops_call2 hs61 (by kernel_rfl) (rall_spec (b := vb) (img := img) (l := l) (at_ := (sessAt i_)) (la := (some ⟨b47, 0, none⟩)) (lc := 3) (ws := [p15, hg_, hk_]) (n := 3) (hn := rfl) (hsz := (by simp only [List.length_cons, List.length_nil]; omega)) (hat := h56) B _) ?_
        rintro _ _ w62 ⟨hv59, hH60⟩ hs63
        rw [h58] at hv59
        try rw [h58] at hH60
        subst hv59 hH60
        have hs64 := St.ap1 hs63
        have hs65 := St.f1 hs64
        have hs66 := St.tk1 hs65
        refine ops_done (by kernel_rfl) ⟨hs66, ?_⟩
        refine any_val (v := (.int .i64 r57.1)) (v' := (.int .i64 r57.1)) 10 (by kernel_rfl) (fun _ => by kernel_rfl) rfl hs66 ?_
        refine any_done (by kernel_rfl) ?_
        refine hK18 _ _ ?_
        clear hK18
        refine W.ret ?_
        obtain rfl := some_inj hm
        have hs67 := St.tk1 hs64
        refine ret_of (.int .i64 r57.1) (by kernel_rfl) ⟨_, ⟨rfl, rfl⟩, hs67⟩
    ·
      refine W.seq fun K68 hK68 => ?_
      refine W.region ?_
      refine ops_run 1 (by kernel_rfl) ?_
      refine ops_R (runs_load (ad := ⟨b4, 0, none⟩) (v := (.bool ho_)) (by kernel_rfl) (hs10.cellAt 0 rfl rfl)) ?_
      refine ops_done (by kernel_rfl) ?_
      refine hK68 _ _ ?_
      clear hK68
      refine W.cond ho_ (by kernel_rfl) (fun h69 => ?_) (fun h69 => ?_)
      ·
        have h69p : ho_ = true := h69
        replace hm := ite_yes hm h69p
        refine W.region ?_
        refine ops_run 1 (by kernel_rfl) ?_
        refine ops_done (by kernel_rfl) ?_
        have hs70 := St.f1 hs10
        exact ⟨1, slots_intro _ (by kernel_rfl), hs70, hm⟩
      ·
        have h69p : ¬ (ho_ = true) := ne_true_of_eq_false h69
        replace hm := ite_no hm h69p
        refine W.skip ?_
        have hs71 := St.f1 hs10
        exact ⟨0, slots_intro _ (by kernel_rfl), hs71, hm⟩
  ·
    have h13p : ¬ (r6 = 0) := of_decide_eq_false (bnot_true h13)
    replace hm := ite_no hm h13p
    refine W.seq fun K72 hK72 => ?_
    refine W.region ?_
    refine ops_run 2 (by kernel_rfl) ?_
    refine ops_done (by kernel_rfl) ?_
    refine hK72 _ _ ?_
    clear hK72
    refine W.ret (ret_seq ?_)
    obtain rfl := some_inj hm
    have hs73 := St.f1 hs10
    have hs74 := St.tk1 hs73
    refine ret_of (.int .i64 r6) (by kernel_rfl) ⟨_, ⟨rfl, rfl⟩, hs74⟩

def rload_J1 (img : List Int) (l : List (Int × Int)) (i_ : Int) (k_ : Int) (r34 : Int) (p37 : Bool) : Option (Int × Int × Int × Int × ByteArray × Int) :=
  if p37 = true then (some (0, 0, 0, 0, ByteArray.empty, 4)) else (need (-9223372036854775808 ≤ ((slotAt i_ k_) + 4) ∧ ((slotAt i_ k_) + 4) ≤ 9223372036854775807) <|
need (-9223372036854775808 ≤ (((slotAt i_ k_) + 4) + 0) ∧ (((slotAt i_ k_) + 4) + 0) ≤ 9223372036854775807) <|
need (-9223372036854775808 ≤ ((slotAt i_ k_) + 4) ∧ ((slotAt i_ k_) + 4) ≤ 9223372036854775807) <|
need (-9223372036854775808 ≤ (((slotAt i_ k_) + 4) + 1) ∧ (((slotAt i_ k_) + 4) + 1) ≤ 9223372036854775807) <|
need (-9223372036854775808 ≤ ((slotAt i_ k_) + 4) ∧ ((slotAt i_ k_) + 4) ≤ 9223372036854775807) <|
need (-9223372036854775808 ≤ (((slotAt i_ k_) + 4) + 2) ∧ (((slotAt i_ k_) + 4) + 2) ≤ 9223372036854775807) <|
need (-9223372036854775808 ≤ ((slotAt i_ k_) + 4) ∧ ((slotAt i_ k_) + 4) ≤ 9223372036854775807) <|
need (-9223372036854775808 ≤ (((slotAt i_ k_) + 4) + 3) ∧ (((slotAt i_ k_) + 4) + 3) ≤ 9223372036854775807) <|
need (-9223372036854775808 ≤ ((slotAt i_ k_) + 4) ∧ ((slotAt i_ k_) + 4) ≤ 9223372036854775807) <|
need (-9223372036854775808 ≤ (((slotAt i_ k_) + 4) + 4) ∧ (((slotAt i_ k_) + 4) + 4) ≤ 9223372036854775807) <|
need (-9223372036854775808 ≤ ((slotAt i_ k_) + 4) ∧ ((slotAt i_ k_) + 4) ≤ 9223372036854775807) <|
need (-9223372036854775808 ≤ (((slotAt i_ k_) + 4) + 5) ∧ (((slotAt i_ k_) + 4) + 5) ≤ 9223372036854775807) <|
need (-9223372036854775808 ≤ ((slotAt i_ k_) + 4) ∧ ((slotAt i_ k_) + 4) ≤ 9223372036854775807) <|
need (-9223372036854775808 ≤ (((slotAt i_ k_) + 4) + 6) ∧ (((slotAt i_ k_) + 4) + 6) ≤ 9223372036854775807) <|
need (-9223372036854775808 ≤ ((slotAt i_ k_) + 4) ∧ ((slotAt i_ k_) + 4) ≤ 9223372036854775807) <|
need (-9223372036854775808 ≤ (((slotAt i_ k_) + 4) + 7) ∧ (((slotAt i_ k_) + 4) + 7) ≤ 9223372036854775807) <|
need (0 ≤ (r34.tdiv 256) ∧ (r34.tdiv 256) ≤ 18446744073709551615) <|
need (-9223372036854775808 ≤ (r34.tdiv 256) ∧ (r34.tdiv 256) ≤ 9223372036854775807) <|
(runpack_M ([(vget img l (((slotAt i_ k_) + 4) + 0)), (vget img l (((slotAt i_ k_) + 4) + 1)), (vget img l (((slotAt i_ k_) + 4) + 2)), (vget img l (((slotAt i_ k_) + 4) + 3)), (vget img l (((slotAt i_ k_) + 4) + 4)), (vget img l (((slotAt i_ k_) + 4) + 5)), (vget img l (((slotAt i_ k_) + 4) + 6)), (vget img l (((slotAt i_ k_) + 4) + 7))]) (r34.tdiv 256)).bind fun r190 =>
need (-9223372036854775808 ≤ (r34.tmod 256) ∧ (r34.tmod 256) ≤ 9223372036854775807) <|
need (-9223372036854775808 ≤ ((slotAt i_ k_) + 2) ∧ ((slotAt i_ k_) + 2) ≤ 9223372036854775807) <|
need (-9223372036854775808 ≤ ((slotAt i_ k_) + 3) ∧ ((slotAt i_ k_) + 3) ≤ 9223372036854775807) <|
(some (vget img l (slotAt i_ k_))).bind fun r208 =>
some (r208, r34.tmod 256, (vget img l ((slotAt i_ k_) + 2)), (vget img l ((slotAt i_ k_) + 3)), r190.1, 0))

def rload_M (img : List Int) (l : List (Int × Int)) (i_ : Int) (k_ : Int) : Option (Int × Int × Int × Int × ByteArray × Int) :=
  (rthere_M img i_ k_).bind fun r6 =>
if r6 = 0 then (if (vget img l (slotAt i_ k_)) = 0 then (some (0, 0, 0, 0, ByteArray.empty, 0)) else (need (-9223372036854775808 ≤ ((slotAt i_ k_) + 1) ∧ ((slotAt i_ k_) + 1) ≤ 9223372036854775807) <|
(some (vget img l ((slotAt i_ k_) + 1))).bind fun r34 =>
if r34.tmod 256 > 24 then (rload_J1 img l i_ k_ r34 true) else (need (0 ≤ (r34.tdiv 256) ∧ (r34.tdiv 256) ≤ 18446744073709551615) <|
rload_J1 img l i_ k_ r34 (decide ((r34.tdiv 256) > 64))))) else (some (0, 0, 0, 0, ByteArray.empty, r6))

set_option maxRecDepth 20000 in
set_option maxHeartbeats 2000000 in
set_option linter.unusedVariables false in
theorem rload_walk {img : List Int} {l : List (Int × Int)} {i_ : Int} {k_ : Int} {p : Value} {r : Int × Int × Int × Int × ByteArray × Int} (B : Nat) (w : World) (hv : RefAt p img l w) (hm : rload_M img l i_ k_ = some r) : Spec Tryd.prog 46 #[p, (.int .i64 i_), (.int .i64 k_)] B w [] (fun v H' => v = (.tuple #[(.int .u64 r.1), (.agg #[(.int .i64 r.2.1), (.int .u64 r.2.2.1), (.int .u64 r.2.2.2.1), (.string r.2.2.2.2.1)]), (.int .i64 r.2.2.2.2.2)]) ∧ H' = []) := by
  refine spec_Q Tryd.func46 rfl fun hs => ?_
  unfold rload_M at hm
  have hv0 := hv
  obtain ⟨x, rfl, hok, hb, hi, ho, hcap⟩ := hv
  have hroom := hok.many
  have hroom2 := hok.size
  refine W.seq fun K1 hK1 => ?_
  refine W.region ?_
  refine ops_run 1 (by kernel_rfl) ?_
  refine ops_new (fun b => .pointer (some ⟨b, 0, none⟩)) (.cells [(.int .i64 0), (.int .u64 0), (.int .u64 0), (.string ByteArray.empty)].toArray 46 (0, 0)) hs (by kernel_rfl) (fun b4 w2 hs3 => ?_)
  refine ops_run 1 (by kernel_rfl) ?_
  refine ops_done (by kernel_rfl) ?_
  refine hK1 _ _ ?_
  clear hK1
  refine W.seq fun K5 hK5 => ?_
  refine W.region ?_
  refine ops_run 3 (by kernel_rfl) ?_
  obtain ⟨r6, h7, hm⟩ := bind_some hm
  refine ops_call0 hs3 (by kernel_rfl) (rthere_walk (i_ := i_) (k_ := k_) (img := img) (l := l) (hv := (refAt_old hs3 hv0)) (hm := h7) B _) ?_
  rintro _ _ w8 ⟨rfl, rfl⟩ hs9
  have hs10 := St.ap0 hs9
  refine ops_run 1 (by kernel_rfl) ?_
  refine ops_done (by kernel_rfl) ?_
  refine hK5 _ _ ?_
  clear hK5
  refine W.seq fun K11 hK11 => ?_
  refine W.seq fun K12 hK12 => ?_
  refine W.region ?_
  refine ops_run 2 (by kernel_rfl) ?_
  refine ops_done (by kernel_rfl) ?_
  refine hK12 _ _ ?_
  clear hK12
  refine W.cond (!decide (r6 = 0)) (by kernel_rfl) (fun h13 => ?_) (fun h13 => ?_)
  rotate_left
  ·
    have h13p : r6 = 0 := of_decide_eq_true (bnot_false h13)
    replace hm := ite_yes hm h13p
    refine W.skip ?_
    refine hK11 _ _ ?_
    clear hK11
    refine W.seq fun K14 hK14 => ?_
    refine W.region ?_
    refine ops_run 2 (by kernel_rfl) ?_
    refine ops_call0 hs10 (by kernel_rfl) (rslotat_spec (i_ := i_) (k_ := k_) B _) ?_
    rintro _ _ w15 ⟨rfl, rfl⟩ hs16
    have hs17 := St.ap0 hs16
    refine ops_run 1 (by kernel_rfl) ?_
    refine ops_done (by kernel_rfl) ?_
    refine hK14 _ _ ?_
    clear hK14
    refine W.seq fun K18 hK18 => ?_
    refine W.seq fun K19 hK19 => ?_
    refine W.region ?_
    refine ops_run 2 (by kernel_rfl) ?_
    refine ops_call0 hs17 (by kernel_rfl) (rget_spec (at_ := (slotAt i_ k_)) (hv := (refAt_old hs17 hv0)) B _) ?_
    rintro _ _ w20 ⟨rfl, rfl⟩ hs21
    have hs22 := St.ap0 hs21
    refine ops_run 1 (by kernel_rfl) ?_
    refine ops_done (by kernel_rfl) ?_
    refine hK19 _ _ ?_
    clear hK19
    refine W.cond (decide ((vget img l (slotAt i_ k_)) = 0)) (by kernel_rfl) (fun h23 => ?_) (fun h23 => ?_)
    ·
      have h23p : (vget img l (slotAt i_ k_)) = 0 := of_decide_eq_true h23
      replace hm := ite_yes hm h23p
      refine W.seq fun K24 hK24 => ?_
      refine W.region ?_
      refine ops_run 2 (by kernel_rfl) ?_
      refine ops_store (off := 0) (cs := [(.int .i64 0), (.int .u64 0), (.int .u64 0), (.string ByteArray.empty)]) (vs := [(.int .i64 0), (.int .u64 0), (.int .u64 0), (.string ByteArray.empty)]) hs22 (by kernel_rfl) (by simp) rfl (fun w25 hs26 => ?_)
      have hs27 : St B w [] w25 [blk b4 (.cells [(.int .i64 0), (.int .u64 0), (.int .u64 0), (.string ByteArray.empty)].toArray 46 (0, 0))] := hs26
      refine ops_run 1 (by kernel_rfl) ?_
      refine ops_done (by kernel_rfl) ?_
      refine hK24 _ _ ?_
      clear hK24
      refine W.ret (ret_seq ?_)
      obtain rfl := some_inj hm
      have hs28 := St.tk0 hs27
      refine ret_of (.tuple #[(.int .u64 0), (.agg #[(.int .i64 0), (.int .u64 0), (.int .u64 0), (.string ByteArray.empty)]), (.int .i64 0)]) (resS_of (by kernel_rfl) (resD_three rfl (.tmp (by kernel_rfl)) (.agg (ad := ⟨b4, 0, none⟩) (cs := [(.int .i64 0), (.int .u64 0), (.int .u64 0), (.string ByteArray.empty)]) (by kernel_rfl) (by kernel_rfl) (cells_sub (hs27.heapAt 0 rfl) rfl)) (.tmp (by kernel_rfl)))) ⟨_, ⟨rfl, rfl⟩, hs28⟩
    ·
      have h23p : ¬ ((vget img l (slotAt i_ k_)) = 0) := of_decide_eq_false h23
      replace hm := ite_no hm h23p
      refine W.skip ?_
      refine hK18 _ _ ?_
      clear hK18
      refine W.seq fun K29 hK29 => ?_
      refine W.region ?_
      refine ops_run 2 (by kernel_rfl) ?_
      obtain ⟨h30, hm⟩ := need_some hm
      refine ops_val (v := .int .i64 (IntKind.i64.wrap ((slotAt i_ k_) + 1))) (v' := .int .i64 ((slotAt i_ k_) + 1)) (by kernel_rfl) (congrArg (Value.int .i64) (wrap_i64 h30.1 h30.2)) ?_
      refine ops_call0 hs22 (by kernel_rfl) (rget_spec (at_ := ((slotAt i_ k_) + 1)) (hv := (refAt_old hs22 hv0)) B _) ?_
      rintro _ _ w31 ⟨rfl, rfl⟩ hs32
      have hs33 := St.ap0 hs32
      refine ops_run 1 (by kernel_rfl) ?_
      obtain ⟨r34, h35, hm⟩ := bind_some hm
      replace h35 := some_inj h35
      refine ops_set 11 (v := .int .u64 r34) (Eq.trans (by kernel_rfl) (congrArg (Value.int .u64) h35)) ?_
      refine ops_done (by kernel_rfl) ?_
      refine hK29 _ _ ?_
      clear hK29
      refine W.seq fun K36 hK36 => ?_
      refine W.seq_join (fun s_ w_ => ∃ (p37 : Bool), (∃ us, s_ = slots 82 [(0, (.pointer (some ⟨x.b, 0, none⟩))), (7, (.pointer (some ⟨b4, 0, none⟩))), (10, (.int .i64 (slotAt i_ k_))), (11, (.int .u64 r34)), (43, (.bool p37))] us) ∧ St B w [] w_ [blk b4 (.cells [(.int .i64 0), (.int .u64 0), (.int .u64 0), (.string ByteArray.empty)].toArray 46 (0, 0))] ∧ rload_J1 img l i_ k_ r34 p37 = some r) ?_ ?_
      ·
        rintro _ w38 ⟨p37, ⟨us, rfl⟩, hs39, hm⟩
        unfold rload_J1 at hm
        refine W.cond p37 (by kernel_rfl) (fun h40 => ?_) (fun h40 => ?_)
        ·
          have h40p : p37 = true := h40
          replace hm := ite_yes hm h40p
          refine W.seq fun K41 hK41 => ?_
          refine W.region ?_
          refine ops_run 2 (by kernel_rfl) ?_
          refine ops_store (off := 0) (cs := [(.int .i64 0), (.int .u64 0), (.int .u64 0), (.string ByteArray.empty)]) (vs := [(.int .i64 0), (.int .u64 0), (.int .u64 0), (.string ByteArray.empty)]) hs39 (by kernel_rfl) (by simp) rfl (fun w42 hs43 => ?_)
          have hs44 : St B w [] w42 [blk b4 (.cells [(.int .i64 0), (.int .u64 0), (.int .u64 0), (.string ByteArray.empty)].toArray 46 (0, 0))] := hs43
          refine ops_run 1 (by kernel_rfl) ?_
          refine ops_done (by kernel_rfl) ?_
          refine hK41 _ _ ?_
          clear hK41
          refine W.ret (ret_seq ?_)
          obtain rfl := some_inj hm
          have hs45 := St.tk0 hs44
          refine ret_of (.tuple #[(.int .u64 0), (.agg #[(.int .i64 0), (.int .u64 0), (.int .u64 0), (.string ByteArray.empty)]), (.int .i64 4)]) (resS_of (by kernel_rfl) (resD_three rfl (.tmp (by kernel_rfl)) (.agg (ad := ⟨b4, 0, none⟩) (cs := [(.int .i64 0), (.int .u64 0), (.int .u64 0), (.string ByteArray.empty)]) (by kernel_rfl) (by kernel_rfl) (cells_sub (hs44.heapAt 0 rfl) rfl)) (.tmp (by kernel_rfl)))) ⟨_, ⟨rfl, rfl⟩, hs45⟩
        ·
          have h40p : ¬ (p37 = true) := ne_true_of_eq_false h40
          replace hm := ite_no hm h40p
          refine W.skip ?_
          refine hK36 _ _ ?_
          clear hK36
          refine W.seq fun K46 hK46 => ?_
          refine W.region ?_
          refine ops_run 1 (by kernel_rfl) ?_
          refine ops_done (by kernel_rfl) ?_
          refine hK46 _ _ ?_
          clear hK46
          refine W.seq fun K47 hK47 => ?_
          refine W.seq fun K48 hK48 => ?_
          refine W.region ?_
          refine ops_run 1 (by kernel_rfl) ?_
          refine ops_done (by kernel_rfl) ?_
          refine hK48 _ _ ?_
          clear hK48
          refine W.block ?_
          refine W.loop_start ?_
          refine loopAt_round ?_
          refine W.seq fun K49 hK49 => ?_
          refine W.seq fun K50 hK50 => ?_
          refine W.region ?_
          refine ops_run 2 (by kernel_rfl) ?_
          refine ops_done (by kernel_rfl) ?_
          refine hK50 _ _ ?_
          clear hK50
          refine W.cond_true true (by kernel_rfl) rfl ?_
          refine W.skip ?_
          refine hK49 _ _ ?_
          clear hK49
          refine W.seq fun K51 hK51 => ?_
          refine W.block ?_
          refine W.region ?_
          refine ops_run 3 (by kernel_rfl) ?_
          obtain ⟨h52, hm⟩ := need_some hm
          refine ops_val (v := .int .i64 (IntKind.i64.wrap ((slotAt i_ k_) + 4))) (v' := .int .i64 ((slotAt i_ k_) + 4)) (by kernel_rfl) (congrArg (Value.int .i64) (wrap_i64 h52.1 h52.2)) ?_
          refine ops_run 1 (by kernel_rfl) ?_
          obtain ⟨h53, hm⟩ := need_some hm
          refine ops_val (v := .int .i64 (IntKind.i64.wrap (((slotAt i_ k_) + 4) + 0))) (v' := .int .i64 (((slotAt i_ k_) + 4) + 0)) (by kernel_rfl) (congrArg (Value.int .i64) (wrap_i64 h53.1 h53.2)) ?_
          refine ops_call0 hs39 (by kernel_rfl) (rget_spec (at_ := (((slotAt i_ k_) + 4) + 0)) (hv := (refAt_old hs39 hv0)) B _) ?_
          rintro _ _ w54 ⟨rfl, rfl⟩ hs55
          have hs56 := St.ap0 hs55
          refine ops_new (fun b => .slice (some ⟨b, 0, none⟩) 1 1) (.cells [(.int .u64 (vget img l (((slotAt i_ k_) + 4) + 0)))].toArray 38 (0, 0)) hs56 (by kernel_rfl) (fun b59 w57 hs58 => ?_)
          have hs60 := St.knil kU64 hs58
          refine ops_appendK kU64 (bytes := 8) (a' := (some ⟨b59, 0, none⟩)) (c' := 1) (l := []) (m := [(vget img l (((slotAt i_ k_) + 4) + 0))]) hs60 (by kernel_rfl) (by simp) (cells_blk (hs60.heapAt 1 rfl)) (by (unfold maxLen; try simp) <;> omega) (by (try simp) <;> omega) (fun a61 c62 w63 hs64 => ?_)
          have hs65 : St B w [] w63 [kU64.row a61 c62 ([(vget img l (((slotAt i_ k_) + 4) + 0))]), blk b59 (.cells [(.int .u64 (vget img l (((slotAt i_ k_) + 4) + 0)))].toArray 38 (0, 0)), blk b4 (.cells [(.int .i64 0), (.int .u64 0), (.int .u64 0), (.string ByteArray.empty)].toArray 46 (0, 0))] := hs64
          refine ops_run 1 (by kernel_rfl) ?_
          refine ops_done (by kernel_rfl) ?_
          refine normal_block ?_
          refine hK51 _ _ ?_
          clear hK51
          refine W.region ?_
          refine ops_run 3 (by kernel_rfl) ?_
          refine ops_done (by kernel_rfl) ?_
          refine loopAt_next ?_
          refine loopAt_round ?_
          refine W.seq fun K66 hK66 => ?_
          refine W.seq fun K67 hK67 => ?_
          refine W.region ?_
          refine ops_run 2 (by kernel_rfl) ?_
          refine ops_done (by kernel_rfl) ?_
          refine hK67 _ _ ?_
          clear hK67
          refine W.cond_true true (by kernel_rfl) rfl ?_
          refine W.skip ?_
          refine hK66 _ _ ?_
          clear hK66
          refine W.seq fun K68 hK68 => ?_
          refine W.block ?_
          refine W.region ?_
          refine ops_run 3 (by kernel_rfl) ?_
          obtain ⟨h69, hm⟩ := need_some hm
          refine ops_val (v := .int .i64 (IntKind.i64.wrap ((slotAt i_ k_) + 4))) (v' := .int .i64 ((slotAt i_ k_) + 4)) (by kernel_rfl) (congrArg (Value.int .i64) (wrap_i64 h69.1 h69.2)) ?_
          refine ops_run 1 (by kernel_rfl) ?_
          obtain ⟨h70, hm⟩ := need_some hm
          refine ops_val (v := .int .i64 (IntKind.i64.wrap (((slotAt i_ k_) + 4) + 1))) (v' := .int .i64 (((slotAt i_ k_) + 4) + 1)) (by kernel_rfl) (congrArg (Value.int .i64) (wrap_i64 h70.1 h70.2)) ?_
          refine ops_call0 hs65 (by kernel_rfl) (rget_spec (at_ := (((slotAt i_ k_) + 4) + 1)) (hv := (refAt_old hs65 hv0)) B _) ?_
          rintro _ _ w71 ⟨rfl, rfl⟩ hs72
          have hs73 := St.ap0 hs72
          refine ops_new (fun b => .slice (some ⟨b, 0, none⟩) 1 1) (.cells [(.int .u64 (vget img l (((slotAt i_ k_) + 4) + 1)))].toArray 38 (0, 0)) hs73 (by kernel_rfl) (fun b76 w74 hs75 => ?_)
          have hs77 := St.f1 hs75
          refine ops_appendK kU64 (bytes := 8) (a' := (some ⟨b76, 0, none⟩)) (c' := 1) (l := [(vget img l (((slotAt i_ k_) + 4) + 0))]) (m := [(vget img l (((slotAt i_ k_) + 4) + 1))]) hs77 (by kernel_rfl) (by simp) (cells_blk (hs77.heapAt 1 rfl)) (by unfold maxLen; (try simp only [List.length_cons, List.length_nil]); omega) (by (try simp only [List.length_cons, List.length_nil]); omega) (fun a78 c79 w80 hs81 => ?_)
          have hs82 : St B w [] w80 [kU64.row a78 c79 ([(vget img l (((slotAt i_ k_) + 4) + 0)), (vget img l (((slotAt i_ k_) + 4) + 1))]), blk b76 (.cells [(.int .u64 (vget img l (((slotAt i_ k_) + 4) + 1)))].toArray 38 (0, 0)), blk b59 (.cells [(.int .u64 (vget img l (((slotAt i_ k_) + 4) + 0)))].toArray 38 (0, 0)), blk b4 (.cells [(.int .i64 0), (.int .u64 0), (.int .u64 0), (.string ByteArray.empty)].toArray 46 (0, 0))] := hs81
          refine ops_run 1 (by kernel_rfl) ?_
          refine ops_done (by kernel_rfl) ?_
          refine normal_block ?_
          refine hK68 _ _ ?_
          clear hK68
          refine W.region ?_
          refine ops_run 3 (by kernel_rfl) ?_
          refine ops_done (by kernel_rfl) ?_
          refine loopAt_next ?_
          refine loopAt_round ?_
          refine W.seq fun K83 hK83 => ?_
          refine W.seq fun K84 hK84 => ?_
          refine W.region ?_
          refine ops_run 2 (by kernel_rfl) ?_
          refine ops_done (by kernel_rfl) ?_
          refine hK84 _ _ ?_
          clear hK84
          refine W.cond_true true (by kernel_rfl) rfl ?_
          refine W.skip ?_
          refine hK83 _ _ ?_
          clear hK83
          refine W.seq fun K85 hK85 => ?_
          refine W.block ?_
          refine W.region ?_
          refine ops_run 3 (by kernel_rfl) ?_
          obtain ⟨h86, hm⟩ := need_some hm
          refine ops_val (v := .int .i64 (IntKind.i64.wrap ((slotAt i_ k_) + 4))) (v' := .int .i64 ((slotAt i_ k_) + 4)) (by kernel_rfl) (congrArg (Value.int .i64) (wrap_i64 h86.1 h86.2)) ?_
          refine ops_run 1 (by kernel_rfl) ?_
          obtain ⟨h87, hm⟩ := need_some hm
          refine ops_val (v := .int .i64 (IntKind.i64.wrap (((slotAt i_ k_) + 4) + 2))) (v' := .int .i64 (((slotAt i_ k_) + 4) + 2)) (by kernel_rfl) (congrArg (Value.int .i64) (wrap_i64 h87.1 h87.2)) ?_
          refine ops_call0 hs82 (by kernel_rfl) (rget_spec (at_ := (((slotAt i_ k_) + 4) + 2)) (hv := (refAt_old hs82 hv0)) B _) ?_
          rintro _ _ w88 ⟨rfl, rfl⟩ hs89
          have hs90 := St.ap0 hs89
          refine ops_new (fun b => .slice (some ⟨b, 0, none⟩) 1 1) (.cells [(.int .u64 (vget img l (((slotAt i_ k_) + 4) + 2)))].toArray 38 (0, 0)) hs90 (by kernel_rfl) (fun b93 w91 hs92 => ?_)
          have hs94 := St.f1 hs92
          refine ops_appendK kU64 (bytes := 8) (a' := (some ⟨b93, 0, none⟩)) (c' := 1) (l := [(vget img l (((slotAt i_ k_) + 4) + 0)), (vget img l (((slotAt i_ k_) + 4) + 1))]) (m := [(vget img l (((slotAt i_ k_) + 4) + 2))]) hs94 (by kernel_rfl) (by simp) (cells_blk (hs94.heapAt 1 rfl)) (by unfold maxLen; (try simp only [List.length_cons, List.length_nil]); omega) (by (try simp only [List.length_cons, List.length_nil]); omega) (fun a95 c96 w97 hs98 => ?_)
          have hs99 : St B w [] w97 [kU64.row a95 c96 ([(vget img l (((slotAt i_ k_) + 4) + 0)), (vget img l (((slotAt i_ k_) + 4) + 1)), (vget img l (((slotAt i_ k_) + 4) + 2))]), blk b93 (.cells [(.int .u64 (vget img l (((slotAt i_ k_) + 4) + 2)))].toArray 38 (0, 0)), blk b76 (.cells [(.int .u64 (vget img l (((slotAt i_ k_) + 4) + 1)))].toArray 38 (0, 0)), blk b59 (.cells [(.int .u64 (vget img l (((slotAt i_ k_) + 4) + 0)))].toArray 38 (0, 0)), blk b4 (.cells [(.int .i64 0), (.int .u64 0), (.int .u64 0), (.string ByteArray.empty)].toArray 46 (0, 0))] := hs98
          refine ops_run 1 (by kernel_rfl) ?_
          refine ops_done (by kernel_rfl) ?_
          refine normal_block ?_
          refine hK85 _ _ ?_
          clear hK85
          refine W.region ?_
          refine ops_run 3 (by kernel_rfl) ?_
          refine ops_done (by kernel_rfl) ?_
          refine loopAt_next ?_
          refine loopAt_round ?_
          refine W.seq fun K100 hK100 => ?_
          refine W.seq fun K101 hK101 => ?_
          refine W.region ?_
          refine ops_run 2 (by kernel_rfl) ?_
          refine ops_done (by kernel_rfl) ?_
          refine hK101 _ _ ?_
          clear hK101
          refine W.cond_true true (by kernel_rfl) rfl ?_
          refine W.skip ?_
          refine hK100 _ _ ?_
          clear hK100
          refine W.seq fun K102 hK102 => ?_
          refine W.block ?_
          refine W.region ?_
          refine ops_run 3 (by kernel_rfl) ?_
          obtain ⟨h103, hm⟩ := need_some hm
          refine ops_val (v := .int .i64 (IntKind.i64.wrap ((slotAt i_ k_) + 4))) (v' := .int .i64 ((slotAt i_ k_) + 4)) (by kernel_rfl) (congrArg (Value.int .i64) (wrap_i64 h103.1 h103.2)) ?_
          refine ops_run 1 (by kernel_rfl) ?_
          obtain ⟨h104, hm⟩ := need_some hm
          refine ops_val (v := .int .i64 (IntKind.i64.wrap (((slotAt i_ k_) + 4) + 3))) (v' := .int .i64 (((slotAt i_ k_) + 4) + 3)) (by kernel_rfl) (congrArg (Value.int .i64) (wrap_i64 h104.1 h104.2)) ?_
          refine ops_call0 hs99 (by kernel_rfl) (rget_spec (at_ := (((slotAt i_ k_) + 4) + 3)) (hv := (refAt_old hs99 hv0)) B _) ?_
          rintro _ _ w105 ⟨rfl, rfl⟩ hs106
          have hs107 := St.ap0 hs106
          refine ops_new (fun b => .slice (some ⟨b, 0, none⟩) 1 1) (.cells [(.int .u64 (vget img l (((slotAt i_ k_) + 4) + 3)))].toArray 38 (0, 0)) hs107 (by kernel_rfl) (fun b110 w108 hs109 => ?_)
          have hs111 := St.f1 hs109
          refine ops_appendK kU64 (bytes := 8) (a' := (some ⟨b110, 0, none⟩)) (c' := 1) (l := [(vget img l (((slotAt i_ k_) + 4) + 0)), (vget img l (((slotAt i_ k_) + 4) + 1)), (vget img l (((slotAt i_ k_) + 4) + 2))]) (m := [(vget img l (((slotAt i_ k_) + 4) + 3))]) hs111 (by kernel_rfl) (by simp) (cells_blk (hs111.heapAt 1 rfl)) (by unfold maxLen; (try simp only [List.length_cons, List.length_nil]); omega) (by (try simp only [List.length_cons, List.length_nil]); omega) (fun a112 c113 w114 hs115 => ?_)
          have hs116 : St B w [] w114 [kU64.row a112 c113 ([(vget img l (((slotAt i_ k_) + 4) + 0)), (vget img l (((slotAt i_ k_) + 4) + 1)), (vget img l (((slotAt i_ k_) + 4) + 2)), (vget img l (((slotAt i_ k_) + 4) + 3))]), blk b110 (.cells [(.int .u64 (vget img l (((slotAt i_ k_) + 4) + 3)))].toArray 38 (0, 0)), blk b93 (.cells [(.int .u64 (vget img l (((slotAt i_ k_) + 4) + 2)))].toArray 38 (0, 0)), blk b76 (.cells [(.int .u64 (vget img l (((slotAt i_ k_) + 4) + 1)))].toArray 38 (0, 0)), blk b59 (.cells [(.int .u64 (vget img l (((slotAt i_ k_) + 4) + 0)))].toArray 38 (0, 0)), blk b4 (.cells [(.int .i64 0), (.int .u64 0), (.int .u64 0), (.string ByteArray.empty)].toArray 46 (0, 0))] := hs115
          refine ops_run 1 (by kernel_rfl) ?_
          refine ops_done (by kernel_rfl) ?_
          refine normal_block ?_
          refine hK102 _ _ ?_
          clear hK102
          refine W.region ?_
          refine ops_run 3 (by kernel_rfl) ?_
          refine ops_done (by kernel_rfl) ?_
          refine loopAt_next ?_
          refine loopAt_round ?_
          refine W.seq fun K117 hK117 => ?_
          refine W.seq fun K118 hK118 => ?_
          refine W.region ?_
          refine ops_run 2 (by kernel_rfl) ?_
          refine ops_done (by kernel_rfl) ?_
          refine hK118 _ _ ?_
          clear hK118
          refine W.cond_true true (by kernel_rfl) rfl ?_
          refine W.skip ?_
          refine hK117 _ _ ?_
          clear hK117
          refine W.seq fun K119 hK119 => ?_
          refine W.block ?_
          refine W.region ?_
          refine ops_run 3 (by kernel_rfl) ?_
          obtain ⟨h120, hm⟩ := need_some hm
          refine ops_val (v := .int .i64 (IntKind.i64.wrap ((slotAt i_ k_) + 4))) (v' := .int .i64 ((slotAt i_ k_) + 4)) (by kernel_rfl) (congrArg (Value.int .i64) (wrap_i64 h120.1 h120.2)) ?_
          refine ops_run 1 (by kernel_rfl) ?_
          obtain ⟨h121, hm⟩ := need_some hm
          refine ops_val (v := .int .i64 (IntKind.i64.wrap (((slotAt i_ k_) + 4) + 4))) (v' := .int .i64 (((slotAt i_ k_) + 4) + 4)) (by kernel_rfl) (congrArg (Value.int .i64) (wrap_i64 h121.1 h121.2)) ?_
          refine ops_call0 hs116 (by kernel_rfl) (rget_spec (at_ := (((slotAt i_ k_) + 4) + 4)) (hv := (refAt_old hs116 hv0)) B _) ?_
          rintro _ _ w122 ⟨rfl, rfl⟩ hs123
          have hs124 := St.ap0 hs123
          refine ops_new (fun b => .slice (some ⟨b, 0, none⟩) 1 1) (.cells [(.int .u64 (vget img l (((slotAt i_ k_) + 4) + 4)))].toArray 38 (0, 0)) hs124 (by kernel_rfl) (fun b127 w125 hs126 => ?_)
          have hs128 := St.f1 hs126
          refine ops_appendK kU64 (bytes := 8) (a' := (some ⟨b127, 0, none⟩)) (c' := 1) (l := [(vget img l (((slotAt i_ k_) + 4) + 0)), (vget img l (((slotAt i_ k_) + 4) + 1)), (vget img l (((slotAt i_ k_) + 4) + 2)), (vget img l (((slotAt i_ k_) + 4) + 3))]) (m := [(vget img l (((slotAt i_ k_) + 4) + 4))]) hs128 (by kernel_rfl) (by simp) (cells_blk (hs128.heapAt 1 rfl)) (by unfold maxLen; (try simp only [List.length_cons, List.length_nil]); omega) (by (try simp only [List.length_cons, List.length_nil]); omega) (fun a129 c130 w131 hs132 => ?_)
          have hs133 : St B w [] w131 [kU64.row a129 c130 ([(vget img l (((slotAt i_ k_) + 4) + 0)), (vget img l (((slotAt i_ k_) + 4) + 1)), (vget img l (((slotAt i_ k_) + 4) + 2)), (vget img l (((slotAt i_ k_) + 4) + 3)), (vget img l (((slotAt i_ k_) + 4) + 4))]), blk b127 (.cells [(.int .u64 (vget img l (((slotAt i_ k_) + 4) + 4)))].toArray 38 (0, 0)), blk b110 (.cells [(.int .u64 (vget img l (((slotAt i_ k_) + 4) + 3)))].toArray 38 (0, 0)), blk b93 (.cells [(.int .u64 (vget img l (((slotAt i_ k_) + 4) + 2)))].toArray 38 (0, 0)), blk b76 (.cells [(.int .u64 (vget img l (((slotAt i_ k_) + 4) + 1)))].toArray 38 (0, 0)), blk b59 (.cells [(.int .u64 (vget img l (((slotAt i_ k_) + 4) + 0)))].toArray 38 (0, 0)), blk b4 (.cells [(.int .i64 0), (.int .u64 0), (.int .u64 0), (.string ByteArray.empty)].toArray 46 (0, 0))] := hs132
          refine ops_run 1 (by kernel_rfl) ?_
          refine ops_done (by kernel_rfl) ?_
          refine normal_block ?_
          refine hK119 _ _ ?_
          clear hK119
          refine W.region ?_
          refine ops_run 3 (by kernel_rfl) ?_
          refine ops_done (by kernel_rfl) ?_
          refine loopAt_next ?_
          refine loopAt_round ?_
          refine W.seq fun K134 hK134 => ?_
          refine W.seq fun K135 hK135 => ?_
          refine W.region ?_
          refine ops_run 2 (by kernel_rfl) ?_
          refine ops_done (by kernel_rfl) ?_
          refine hK135 _ _ ?_
          clear hK135
          refine W.cond_true true (by kernel_rfl) rfl ?_
          refine W.skip ?_
          refine hK134 _ _ ?_
          clear hK134
          refine W.seq fun K136 hK136 => ?_
          refine W.block ?_
          refine W.region ?_
          refine ops_run 3 (by kernel_rfl) ?_
          obtain ⟨h137, hm⟩ := need_some hm
          refine ops_val (v := .int .i64 (IntKind.i64.wrap ((slotAt i_ k_) + 4))) (v' := .int .i64 ((slotAt i_ k_) + 4)) (by kernel_rfl) (congrArg (Value.int .i64) (wrap_i64 h137.1 h137.2)) ?_
          refine ops_run 1 (by kernel_rfl) ?_
          obtain ⟨h138, hm⟩ := need_some hm
          refine ops_val (v := .int .i64 (IntKind.i64.wrap (((slotAt i_ k_) + 4) + 5))) (v' := .int .i64 (((slotAt i_ k_) + 4) + 5)) (by kernel_rfl) (congrArg (Value.int .i64) (wrap_i64 h138.1 h138.2)) ?_
          refine ops_call0 hs133 (by kernel_rfl) (rget_spec (at_ := (((slotAt i_ k_) + 4) + 5)) (hv := (refAt_old hs133 hv0)) B _) ?_
          rintro _ _ w139 ⟨rfl, rfl⟩ hs140
          have hs141 := St.ap0 hs140
          refine ops_new (fun b => .slice (some ⟨b, 0, none⟩) 1 1) (.cells [(.int .u64 (vget img l (((slotAt i_ k_) + 4) + 5)))].toArray 38 (0, 0)) hs141 (by kernel_rfl) (fun b144 w142 hs143 => ?_)
          have hs145 := St.f1 hs143
          refine ops_appendK kU64 (bytes := 8) (a' := (some ⟨b144, 0, none⟩)) (c' := 1) (l := [(vget img l (((slotAt i_ k_) + 4) + 0)), (vget img l (((slotAt i_ k_) + 4) + 1)), (vget img l (((slotAt i_ k_) + 4) + 2)), (vget img l (((slotAt i_ k_) + 4) + 3)), (vget img l (((slotAt i_ k_) + 4) + 4))]) (m := [(vget img l (((slotAt i_ k_) + 4) + 5))]) hs145 (by kernel_rfl) (by simp) (cells_blk (hs145.heapAt 1 rfl)) (by unfold maxLen; (try simp only [List.length_cons, List.length_nil]); omega) (by (try simp only [List.length_cons, List.length_nil]); omega) (fun a146 c147 w148 hs149 => ?_)
          have hs150 : St B w [] w148 [kU64.row a146 c147 ([(vget img l (((slotAt i_ k_) + 4) + 0)), (vget img l (((slotAt i_ k_) + 4) + 1)), (vget img l (((slotAt i_ k_) + 4) + 2)), (vget img l (((slotAt i_ k_) + 4) + 3)), (vget img l (((slotAt i_ k_) + 4) + 4)), (vget img l (((slotAt i_ k_) + 4) + 5))]), blk b144 (.cells [(.int .u64 (vget img l (((slotAt i_ k_) + 4) + 5)))].toArray 38 (0, 0)), blk b127 (.cells [(.int .u64 (vget img l (((slotAt i_ k_) + 4) + 4)))].toArray 38 (0, 0)), blk b110 (.cells [(.int .u64 (vget img l (((slotAt i_ k_) + 4) + 3)))].toArray 38 (0, 0)), blk b93 (.cells [(.int .u64 (vget img l (((slotAt i_ k_) + 4) + 2)))].toArray 38 (0, 0)), blk b76 (.cells [(.int .u64 (vget img l (((slotAt i_ k_) + 4) + 1)))].toArray 38 (0, 0)), blk b59 (.cells [(.int .u64 (vget img l (((slotAt i_ k_) + 4) + 0)))].toArray 38 (0, 0)), blk b4 (.cells [(.int .i64 0), (.int .u64 0), (.int .u64 0), (.string ByteArray.empty)].toArray 46 (0, 0))] := hs149
          refine ops_run 1 (by kernel_rfl) ?_
          refine ops_done (by kernel_rfl) ?_
          refine normal_block ?_
          refine hK136 _ _ ?_
          clear hK136
          refine W.region ?_
          refine ops_run 3 (by kernel_rfl) ?_
          refine ops_done (by kernel_rfl) ?_
          refine loopAt_next ?_
          refine loopAt_round ?_
          refine W.seq fun K151 hK151 => ?_
          refine W.seq fun K152 hK152 => ?_
          refine W.region ?_
          refine ops_run 2 (by kernel_rfl) ?_
          refine ops_done (by kernel_rfl) ?_
          refine hK152 _ _ ?_
          clear hK152
          refine W.cond_true true (by kernel_rfl) rfl ?_
          refine W.skip ?_
          refine hK151 _ _ ?_
          clear hK151
          refine W.seq fun K153 hK153 => ?_
          refine W.block ?_
          refine W.region ?_
          refine ops_run 3 (by kernel_rfl) ?_
          obtain ⟨h154, hm⟩ := need_some hm
          refine ops_val (v := .int .i64 (IntKind.i64.wrap ((slotAt i_ k_) + 4))) (v' := .int .i64 ((slotAt i_ k_) + 4)) (by kernel_rfl) (congrArg (Value.int .i64) (wrap_i64 h154.1 h154.2)) ?_
          refine ops_run 1 (by kernel_rfl) ?_
          obtain ⟨h155, hm⟩ := need_some hm
          refine ops_val (v := .int .i64 (IntKind.i64.wrap (((slotAt i_ k_) + 4) + 6))) (v' := .int .i64 (((slotAt i_ k_) + 4) + 6)) (by kernel_rfl) (congrArg (Value.int .i64) (wrap_i64 h155.1 h155.2)) ?_
          refine ops_call0 hs150 (by kernel_rfl) (rget_spec (at_ := (((slotAt i_ k_) + 4) + 6)) (hv := (refAt_old hs150 hv0)) B _) ?_
          rintro _ _ w156 ⟨rfl, rfl⟩ hs157
          have hs158 := St.ap0 hs157
          refine ops_new (fun b => .slice (some ⟨b, 0, none⟩) 1 1) (.cells [(.int .u64 (vget img l (((slotAt i_ k_) + 4) + 6)))].toArray 38 (0, 0)) hs158 (by kernel_rfl) (fun b161 w159 hs160 => ?_)
          have hs162 := St.f1 hs160
          refine ops_appendK kU64 (bytes := 8) (a' := (some ⟨b161, 0, none⟩)) (c' := 1) (l := [(vget img l (((slotAt i_ k_) + 4) + 0)), (vget img l (((slotAt i_ k_) + 4) + 1)), (vget img l (((slotAt i_ k_) + 4) + 2)), (vget img l (((slotAt i_ k_) + 4) + 3)), (vget img l (((slotAt i_ k_) + 4) + 4)), (vget img l (((slotAt i_ k_) + 4) + 5))]) (m := [(vget img l (((slotAt i_ k_) + 4) + 6))]) hs162 (by kernel_rfl) (by simp) (cells_blk (hs162.heapAt 1 rfl)) (by unfold maxLen; (try simp only [List.length_cons, List.length_nil]); omega) (by (try simp only [List.length_cons, List.length_nil]); omega) (fun a163 c164 w165 hs166 => ?_)
          have hs167 : St B w [] w165 [kU64.row a163 c164 ([(vget img l (((slotAt i_ k_) + 4) + 0)), (vget img l (((slotAt i_ k_) + 4) + 1)), (vget img l (((slotAt i_ k_) + 4) + 2)), (vget img l (((slotAt i_ k_) + 4) + 3)), (vget img l (((slotAt i_ k_) + 4) + 4)), (vget img l (((slotAt i_ k_) + 4) + 5)), (vget img l (((slotAt i_ k_) + 4) + 6))]), blk b161 (.cells [(.int .u64 (vget img l (((slotAt i_ k_) + 4) + 6)))].toArray 38 (0, 0)), blk b144 (.cells [(.int .u64 (vget img l (((slotAt i_ k_) + 4) + 5)))].toArray 38 (0, 0)), blk b127 (.cells [(.int .u64 (vget img l (((slotAt i_ k_) + 4) + 4)))].toArray 38 (0, 0)), blk b110 (.cells [(.int .u64 (vget img l (((slotAt i_ k_) + 4) + 3)))].toArray 38 (0, 0)), blk b93 (.cells [(.int .u64 (vget img l (((slotAt i_ k_) + 4) + 2)))].toArray 38 (0, 0)), blk b76 (.cells [(.int .u64 (vget img l (((slotAt i_ k_) + 4) + 1)))].toArray 38 (0, 0)), blk b59 (.cells [(.int .u64 (vget img l (((slotAt i_ k_) + 4) + 0)))].toArray 38 (0, 0)), blk b4 (.cells [(.int .i64 0), (.int .u64 0), (.int .u64 0), (.string ByteArray.empty)].toArray 46 (0, 0))] := hs166
          refine ops_run 1 (by kernel_rfl) ?_
          refine ops_done (by kernel_rfl) ?_
          refine normal_block ?_
          refine hK153 _ _ ?_
          clear hK153
          refine W.region ?_
          refine ops_run 3 (by kernel_rfl) ?_
          refine ops_done (by kernel_rfl) ?_
          refine loopAt_next ?_
          refine loopAt_round ?_
          refine W.seq fun K168 hK168 => ?_
          refine W.seq fun K169 hK169 => ?_
          refine W.region ?_
          refine ops_run 2 (by kernel_rfl) ?_
          refine ops_done (by kernel_rfl) ?_
          refine hK169 _ _ ?_
          clear hK169
          refine W.cond_true true (by kernel_rfl) rfl ?_
          refine W.skip ?_
          refine hK168 _ _ ?_
          clear hK168
          refine W.seq fun K170 hK170 => ?_
          refine W.block ?_
          refine W.region ?_
          refine ops_run 3 (by kernel_rfl) ?_
          obtain ⟨h171, hm⟩ := need_some hm
          refine ops_val (v := .int .i64 (IntKind.i64.wrap ((slotAt i_ k_) + 4))) (v' := .int .i64 ((slotAt i_ k_) + 4)) (by kernel_rfl) (congrArg (Value.int .i64) (wrap_i64 h171.1 h171.2)) ?_
          refine ops_run 1 (by kernel_rfl) ?_
          obtain ⟨h172, hm⟩ := need_some hm
          refine ops_val (v := .int .i64 (IntKind.i64.wrap (((slotAt i_ k_) + 4) + 7))) (v' := .int .i64 (((slotAt i_ k_) + 4) + 7)) (by kernel_rfl) (congrArg (Value.int .i64) (wrap_i64 h172.1 h172.2)) ?_
          refine ops_call0 hs167 (by kernel_rfl) (rget_spec (at_ := (((slotAt i_ k_) + 4) + 7)) (hv := (refAt_old hs167 hv0)) B _) ?_
          rintro _ _ w173 ⟨rfl, rfl⟩ hs174
          have hs175 := St.ap0 hs174
          refine ops_new (fun b => .slice (some ⟨b, 0, none⟩) 1 1) (.cells [(.int .u64 (vget img l (((slotAt i_ k_) + 4) + 7)))].toArray 38 (0, 0)) hs175 (by kernel_rfl) (fun b178 w176 hs177 => ?_)
          have hs179 := St.f1 hs177
          refine ops_appendK kU64 (bytes := 8) (a' := (some ⟨b178, 0, none⟩)) (c' := 1) (l := [(vget img l (((slotAt i_ k_) + 4) + 0)), (vget img l (((slotAt i_ k_) + 4) + 1)), (vget img l (((slotAt i_ k_) + 4) + 2)), (vget img l (((slotAt i_ k_) + 4) + 3)), (vget img l (((slotAt i_ k_) + 4) + 4)), (vget img l (((slotAt i_ k_) + 4) + 5)), (vget img l (((slotAt i_ k_) + 4) + 6))]) (m := [(vget img l (((slotAt i_ k_) + 4) + 7))]) hs179 (by kernel_rfl) (by simp) (cells_blk (hs179.heapAt 1 rfl)) (by unfold maxLen; (try simp only [List.length_cons, List.length_nil]); omega) (by (try simp only [List.length_cons, List.length_nil]); omega) (fun a180 c181 w182 hs183 => ?_)
          have hs184 : St B w [] w182 [kU64.row a180 c181 ([(vget img l (((slotAt i_ k_) + 4) + 0)), (vget img l (((slotAt i_ k_) + 4) + 1)), (vget img l (((slotAt i_ k_) + 4) + 2)), (vget img l (((slotAt i_ k_) + 4) + 3)), (vget img l (((slotAt i_ k_) + 4) + 4)), (vget img l (((slotAt i_ k_) + 4) + 5)), (vget img l (((slotAt i_ k_) + 4) + 6)), (vget img l (((slotAt i_ k_) + 4) + 7))]), blk b178 (.cells [(.int .u64 (vget img l (((slotAt i_ k_) + 4) + 7)))].toArray 38 (0, 0)), blk b161 (.cells [(.int .u64 (vget img l (((slotAt i_ k_) + 4) + 6)))].toArray 38 (0, 0)), blk b144 (.cells [(.int .u64 (vget img l (((slotAt i_ k_) + 4) + 5)))].toArray 38 (0, 0)), blk b127 (.cells [(.int .u64 (vget img l (((slotAt i_ k_) + 4) + 4)))].toArray 38 (0, 0)), blk b110 (.cells [(.int .u64 (vget img l (((slotAt i_ k_) + 4) + 3)))].toArray 38 (0, 0)), blk b93 (.cells [(.int .u64 (vget img l (((slotAt i_ k_) + 4) + 2)))].toArray 38 (0, 0)), blk b76 (.cells [(.int .u64 (vget img l (((slotAt i_ k_) + 4) + 1)))].toArray 38 (0, 0)), blk b59 (.cells [(.int .u64 (vget img l (((slotAt i_ k_) + 4) + 0)))].toArray 38 (0, 0)), blk b4 (.cells [(.int .i64 0), (.int .u64 0), (.int .u64 0), (.string ByteArray.empty)].toArray 46 (0, 0))] := hs183
          refine ops_run 1 (by kernel_rfl) ?_
          refine ops_done (by kernel_rfl) ?_
          refine normal_block ?_
          refine hK170 _ _ ?_
          clear hK170
          refine W.region ?_
          refine ops_run 3 (by kernel_rfl) ?_
          refine ops_done (by kernel_rfl) ?_
          refine loopAt_next ?_
          refine loopAt_round ?_
          refine W.seq fun K185 hK185 => ?_
          refine W.seq fun K186 hK186 => ?_
          refine W.region ?_
          refine ops_run 2 (by kernel_rfl) ?_
          refine ops_done (by kernel_rfl) ?_
          refine hK186 _ _ ?_
          clear hK186
          refine W.cond_false false (by kernel_rfl) rfl ?_
          refine W.exit (exit_seq (exit_seq (exit_here ?_)))
          refine hK47 _ _ ?_
          clear hK47
          refine W.seq fun K187 hK187 => ?_
          refine W.region ?_
          refine ops_run 2 (by kernel_rfl) ?_
          obtain ⟨h188, hm⟩ := need_some hm
          refine ops_R (v := .int .u64 (r34.tdiv 256)) (runs_quo (k := .u64) (a := r34) (b := 256) (by kernel_rfl) (by decide) (wrap_u64 h188.1 (Int.lt_of_le_of_lt h188.2 (by decide)))) ?_
          obtain ⟨h189, hm⟩ := need_some hm
          refine ops_val (v := .int .i64 (IntKind.i64.wrap (r34.tdiv 256))) (v' := .int .i64 (r34.tdiv 256)) (by kernel_rfl) (congrArg (Value.int .i64) (wrap_i64 h189.1 h189.2)) ?_
          obtain ⟨r190, h191, hm⟩ := bind_some hm
          refine ops_call0 hs184 (by kernel_rfl) (runpack_walk (ws := [(vget img l (((slotAt i_ k_) + 4) + 0)), (vget img l (((slotAt i_ k_) + 4) + 1)), (vget img l (((slotAt i_ k_) + 4) + 2)), (vget img l (((slotAt i_ k_) + 4) + 3)), (vget img l (((slotAt i_ k_) + 4) + 4)), (vget img l (((slotAt i_ k_) + 4) + 5)), (vget img l (((slotAt i_ k_) + 4) + 6)), (vget img l (((slotAt i_ k_) + 4) + 7))]) (n_ := (r34.tdiv 256)) (wa := a180) (wc := c181) (hw := (St.kcells kU64 hs184 0 rfl)) (hm := h191) B _) ?_
          rintro _ _ w192 ⟨rfl, rfl⟩ hs193
          have hs194 := St.ap0 hs193
          refine ops_run 5 (by kernel_rfl) ?_
          refine ops_done (by kernel_rfl) ?_
          refine hK187 _ _ ?_
          clear hK187
          refine W.seq fun K195 hK195 => ?_
          refine W.region ?_
          refine ops_run 2 (by kernel_rfl) ?_
          refine ops_call0 hs194 (by kernel_rfl) (rget_spec (at_ := (slotAt i_ k_)) (hv := (refAt_old hs194 hv0)) B _) ?_
          rintro _ _ w196 ⟨rfl, rfl⟩ hs197
          have hs198 := St.ap0 hs197
          refine ops_run 2 (by kernel_rfl) ?_
          obtain ⟨h199, hm⟩ := need_some hm
          refine ops_val (v := .int .i64 (IntKind.i64.wrap (r34.tmod 256))) (v' := .int .i64 (r34.tmod 256)) (by kernel_rfl) (congrArg (Value.int .i64) (wrap_i64 h199.1 h199.2)) ?_
          refine ops_run 2 (by kernel_rfl) ?_
          obtain ⟨h200, hm⟩ := need_some hm
          refine ops_val (v := .int .i64 (IntKind.i64.wrap ((slotAt i_ k_) + 2))) (v' := .int .i64 ((slotAt i_ k_) + 2)) (by kernel_rfl) (congrArg (Value.int .i64) (wrap_i64 h200.1 h200.2)) ?_
          refine ops_call0 hs198 (by kernel_rfl) (rget_spec (at_ := ((slotAt i_ k_) + 2)) (hv := (refAt_old hs198 hv0)) B _) ?_
          rintro _ _ w201 ⟨rfl, rfl⟩ hs202
          have hs203 := St.ap0 hs202
          refine ops_run 2 (by kernel_rfl) ?_
          obtain ⟨h204, hm⟩ := need_some hm
          refine ops_val (v := .int .i64 (IntKind.i64.wrap ((slotAt i_ k_) + 3))) (v' := .int .i64 ((slotAt i_ k_) + 3)) (by kernel_rfl) (congrArg (Value.int .i64) (wrap_i64 h204.1 h204.2)) ?_
          refine ops_call0 hs203 (by kernel_rfl) (rget_spec (at_ := ((slotAt i_ k_) + 3)) (hv := (refAt_old hs203 hv0)) B _) ?_
          rintro _ _ w205 ⟨rfl, rfl⟩ hs206
          have hs207 := St.ap0 hs206
          refine ops_run 3 (by kernel_rfl) ?_
          obtain ⟨r208, h209, hm⟩ := bind_some hm
          replace h209 := some_inj h209
          refine ops_set 6 (v := .int .u64 r208) (Eq.trans (by kernel_rfl) (congrArg (Value.int .u64) h209)) ?_
          have hs212 := St.f9 hs207
          refine ops_store (off := 0) (cs := [(.int .i64 0), (.int .u64 0), (.int .u64 0), (.string ByteArray.empty)]) (vs := [(.int .i64 (r34.tmod 256)), (.int .u64 (vget img l ((slotAt i_ k_) + 2))), (.int .u64 (vget img l ((slotAt i_ k_) + 3))), (.string r190.1)]) hs212 (by kernel_rfl) (by simp) rfl (fun w210 hs211 => ?_)
          have hs213 : St B w [] w210 [blk b4 (.cells [(.int .i64 (r34.tmod 256)), (.int .u64 (vget img l ((slotAt i_ k_) + 2))), (.int .u64 (vget img l ((slotAt i_ k_) + 3))), (.string r190.1)].toArray 46 (0, 0)), kU64.row a180 c181 ([(vget img l (((slotAt i_ k_) + 4) + 0)), (vget img l (((slotAt i_ k_) + 4) + 1)), (vget img l (((slotAt i_ k_) + 4) + 2)), (vget img l (((slotAt i_ k_) + 4) + 3)), (vget img l (((slotAt i_ k_) + 4) + 4)), (vget img l (((slotAt i_ k_) + 4) + 5)), (vget img l (((slotAt i_ k_) + 4) + 6)), (vget img l (((slotAt i_ k_) + 4) + 7))]), blk b178 (.cells [(.int .u64 (vget img l (((slotAt i_ k_) + 4) + 7)))].toArray 38 (0, 0)), blk b161 (.cells [(.int .u64 (vget img l (((slotAt i_ k_) + 4) + 6)))].toArray 38 (0, 0)), blk b144 (.cells [(.int .u64 (vget img l (((slotAt i_ k_) + 4) + 5)))].toArray 38 (0, 0)), blk b127 (.cells [(.int .u64 (vget img l (((slotAt i_ k_) + 4) + 4)))].toArray 38 (0, 0)), blk b110 (.cells [(.int .u64 (vget img l (((slotAt i_ k_) + 4) + 3)))].toArray 38 (0, 0)), blk b93 (.cells [(.int .u64 (vget img l (((slotAt i_ k_) + 4) + 2)))].toArray 38 (0, 0)), blk b76 (.cells [(.int .u64 (vget img l (((slotAt i_ k_) + 4) + 1)))].toArray 38 (0, 0)), blk b59 (.cells [(.int .u64 (vget img l (((slotAt i_ k_) + 4) + 0)))].toArray 38 (0, 0))] := hs211
          refine ops_run 1 (by kernel_rfl) ?_
          refine ops_done (by kernel_rfl) ?_
          refine hK195 _ _ ?_
          clear hK195
          refine W.ret ?_
          obtain rfl := some_inj hm
          have hs214 := St.tk0 hs213
          refine ret_of (.tuple #[(.int .u64 r208), (.agg #[(.int .i64 (r34.tmod 256)), (.int .u64 (vget img l ((slotAt i_ k_) + 2))), (.int .u64 (vget img l ((slotAt i_ k_) + 3))), (.string r190.1)]), (.int .i64 0)]) (resS_of (by kernel_rfl) (resD_three rfl (.tmp (by kernel_rfl)) (.agg (ad := ⟨b4, 0, none⟩) (cs := [(.int .i64 (r34.tmod 256)), (.int .u64 (vget img l ((slotAt i_ k_) + 2))), (.int .u64 (vget img l ((slotAt i_ k_) + 3))), (.string r190.1)]) (by kernel_rfl) (by kernel_rfl) (cells_sub (hs213.heapAt 0 rfl) rfl)) (.tmp (by kernel_rfl)))) ⟨_, ⟨rfl, rfl⟩, hs214⟩
      ·
        refine W.region ?_
        refine ops_run 4 (by kernel_rfl) ?_
        rcases Bool.eq_false_or_eq_true (decide (r34.tmod 256 > 24)) with h215 | h215
        ·
          have h215p : r34.tmod 256 > 24 := of_decide_eq_true h215
          replace hm := ite_yes hm h215p
          refine ops_set 39 (v := .bool true) (eq_bool_of (by kernel_rfl) h215) ?_
          refine ops_set 38 (v := .bool true) (eq_bool_of (by kernel_rfl) h215) ?_
          refine ops_run 4 (by kernel_rfl) ?_
          refine ops_done (by kernel_rfl) ?_
          exact ⟨true, slots_intro _ (by kernel_rfl), hs33, hm⟩
        ·
          have h215p : ¬ (r34.tmod 256 > 24) := of_decide_eq_false h215
          replace hm := ite_no hm h215p
          refine ops_set 39 (v := .bool false) (eq_bool_of (by kernel_rfl) h215) ?_
          refine ops_set 38 (v := .bool false) (eq_bool_of (by kernel_rfl) h215) ?_
          refine ops_run 1 (by kernel_rfl) ?_
          obtain ⟨h216, hm⟩ := need_some hm
          refine ops_R (v := .int .u64 (r34.tdiv 256)) (runs_quo (k := .u64) (a := r34) (b := 256) (by kernel_rfl) (by decide) (wrap_u64 h216.1 (Int.lt_of_le_of_lt h216.2 (by decide)))) ?_
          refine ops_run 2 (by kernel_rfl) ?_
          refine ops_done (by kernel_rfl) ?_
          exact ⟨(decide ((r34.tdiv 256) > 64)), slots_intro _ (by kernel_rfl), hs33, hm⟩
  ·
    have h13p : ¬ (r6 = 0) := of_decide_eq_false (bnot_true h13)
    replace hm := ite_no hm h13p
    refine W.seq fun K217 hK217 => ?_
    refine W.region ?_
    refine ops_run 3 (by kernel_rfl) ?_
    refine ops_store (off := 0) (cs := [(.int .i64 0), (.int .u64 0), (.int .u64 0), (.string ByteArray.empty)]) (vs := [(.int .i64 0), (.int .u64 0), (.int .u64 0), (.string ByteArray.empty)]) hs10 (by kernel_rfl) (by simp) rfl (fun w218 hs219 => ?_)
    have hs220 : St B w [] w218 [blk b4 (.cells [(.int .i64 0), (.int .u64 0), (.int .u64 0), (.string ByteArray.empty)].toArray 46 (0, 0))] := hs219
    refine ops_run 1 (by kernel_rfl) ?_
    refine ops_done (by kernel_rfl) ?_
    refine hK217 _ _ ?_
    clear hK217
    refine W.ret (ret_seq ?_)
    obtain rfl := some_inj hm
    have hs221 := St.tk0 hs220
    refine ret_of (.tuple #[(.int .u64 0), (.agg #[(.int .i64 0), (.int .u64 0), (.int .u64 0), (.string ByteArray.empty)]), (.int .i64 r6)]) (resS_of (by kernel_rfl) (resD_three rfl (.tmp (by kernel_rfl)) (.agg (ad := ⟨b4, 0, none⟩) (cs := [(.int .i64 0), (.int .u64 0), (.int .u64 0), (.string ByteArray.empty)]) (by kernel_rfl) (by kernel_rfl) (cells_sub (hs220.heapAt 0 rfl) rfl)) (.tmp (by kernel_rfl)))) ⟨_, ⟨rfl, rfl⟩, hs221⟩

def rwipe10_B1 (img : List Int) (i_ : Int) (k17 : ((List (Int × Int)) × Int × Int) → Option (Int × List (Int × Int))) (l14 : List (Int × Int)) (p15 : Int) (p16 : Int) : Option (Int × List (Int × Int)) :=
  if p16 < 4 then (if p15 = 0 then (need (-1 ≤ (descAt i_ p16) ∧ (descAt i_ p16) ≤ 1000000) <|
(some (vwrites img (descAt i_ p16) l14 0 ([0, 0]))).bind fun r34 =>
need (-9223372036854775808 ≤ (p16 + 1) ∧ (p16 + 1) ≤ 9223372036854775807) <|
k17 (r34.2, r34.1, (p16 + 1))) else (some (p15, l14))) else (some (p15, l14))

def rwipe10_J1 (img : List Int) (i_ : Int) (l8 : List (Int × Int)) (p9 : Int) : Option (Int × List (Int × Int)) :=
  iter (fun k_ s_ => rwipe10_B1 img i_ k_ s_.1 s_.2.1 s_.2.2) FUEL (l8, p9, 0)

def rwipe10_B0 (img : List Int) (i_ : Int) (k49 : ((List (Int × Int)) × Int × Int) → Option (Int × List (Int × Int))) (l46 : List (Int × Int)) (p47 : Int) (p48 : Int) : Option (Int × List (Int × Int)) :=
  if p48 < 4 then (if p47 = 0 then ((some ((vwrite img l46 (slotAt i_ p48) 0).1)).bind fun r64 =>
need (-9223372036854775808 ≤ (p48 + 1) ∧ (p48 + 1) ≤ 9223372036854775807) <|
k49 ((vwrite img l46 (slotAt i_ p48) 0).2, r64, (p48 + 1))) else (rwipe10_J1 img i_ l46 p47)) else (rwipe10_J1 img i_ l46 p47)

def rwipe10_M (img : List Int) (l : List (Int × Int)) (i_ : Int) : Option (Int × List (Int × Int)) :=
  (rthere_M img i_ 0).bind fun r3 =>
iter (fun k_ s_ => rwipe10_B0 img i_ k_ s_.1 s_.2.1 s_.2.2) FUEL (l, r3, 0)

set_option maxRecDepth 20000 in
set_option maxHeartbeats 2000000 in
set_option linter.unusedVariables false in
theorem rwipe10_walk {img : List Int} {l : List (Int × Int)} {i_ : Int} {vb : Nat} {r : Int × List (Int × Int)} (B : Nat) (w : World) (hm : rwipe10_M img l i_ = some r) : Spec Tryd.prog 48 #[(.pointer (some ⟨vb, 0, none⟩)), (.int .i64 i_)] B w [refA (ptr vb) img l] (fun v H' => v = (.int .i64 r.1) ∧ H' = [refA (ptr vb) img r.2]) := by
  refine spec_W Tryd.func48 rfl fun l0 hs => ?_
  unfold rwipe10_M at hm
  refine W.seq fun K1 hK1 => ?_
  refine W.region ?_
  refine ops_run 1 (by kernel_rfl) ?_
  refine ops_done (by kernel_rfl) ?_
  refine hK1 _ _ ?_
  clear hK1
  refine W.seq fun K2 hK2 => ?_
  refine W.region ?_
  refine ops_run 2 (by kernel_rfl) ?_
  obtain ⟨r3, h4, hm⟩ := bind_some hm
  refine ops_call0 hs (by kernel_rfl) (rthere_walk (i_ := i_) (k_ := 0) (img := img) (l := l) (hv := (hs.entAt 0 rfl refA_at)) (hm := h4) B _) ?_
  rintro _ _ w5 ⟨rfl, rfl⟩ hs6
  have hs7 := St.ap0 hs6
  refine ops_run 1 (by kernel_rfl) ?_
  refine ops_done (by kernel_rfl) ?_
  refine hK2 _ _ ?_
  clear hK2
  refine W.seq_join (fun s_ w_ => ∃ (l8 : List (Int × Int)) (p9 : Int), (∃ us, s_ = slots 39 [(0, (.pointer (some ⟨vb, 0, none⟩))), (1, (.int .i64 i_)), (5, (.int .i64 p9))] us) ∧ St B w l0 w_ [refA (ptr vb) img l8] ∧ rwipe10_J1 img i_ l8 p9 = some r) ?_ ?_
  ·
    rintro _ w10 ⟨l8, p9, ⟨us, rfl⟩, hs11, hm⟩
    unfold rwipe10_J1 at hm
    refine W.seq fun K12 hK12 => ?_
    refine W.seq fun K13 hK13 => ?_
    refine W.region ?_
    refine ops_run 1 (by kernel_rfl) ?_
    refine ops_done (by kernel_rfl) ?_
    refine hK13 _ _ ?_
    clear hK13
    refine W.block ?_
    refine W.loop_iter (G := (List (Int × Int)) × Int × Int) (σ := (List (Int × Int)) × Int × Int) (fun | (l14, p15, p16) => (l14, p15, p16)) (fun | (l14, p15, p16), s_, w_ => (∃ us, s_ = slots 39 [(0, (.pointer (some ⟨vb, 0, none⟩))), (1, (.int .i64 i_)), (5, (.int .i64 p15)), (7, (.int .i64 p16))] us) ∧ St B w l0 w_ [refA (ptr vb) img l14]) (l8, p9, 0) ⟨slots_intro _ (by kernel_rfl), hs11⟩ hm ?_
    rintro k17 ih18 ⟨l14, p15, p16⟩ _ w19 ⟨⟨us, rfl⟩, hs20⟩ hm
    replace hm : rwipe10_B1 img i_ k17 l14 p15 p16 = some r := hm
    unfold rwipe10_B1 at hm
    refine W.seq fun K21 hK21 => ?_
    refine W.seq fun K22 hK22 => ?_
    refine W.region ?_
    refine ops_run 3 (by kernel_rfl) ?_
    rcases Bool.eq_false_or_eq_true (decide (p16 < 4)) with h23 | h23
    ·
      have h23p : p16 < 4 := of_decide_eq_true h23
      replace hm := ite_yes hm h23p
      refine ops_set 26 (v := .bool true) (eq_bool_of (by kernel_rfl) h23) ?_
      refine ops_set 25 (v := .bool true) (eq_bool_of (by kernel_rfl) h23) ?_
      refine ops_run 3 (by kernel_rfl) ?_
      refine ops_done (by kernel_rfl) ?_
      refine hK22 _ _ ?_
      clear hK22
      refine W.cond (decide (p15 = 0)) (by kernel_rfl) (fun h24 => ?_) (fun h24 => ?_)
      ·
        have h24p : p15 = 0 := of_decide_eq_true h24
        replace hm := ite_yes hm h24p
        refine W.skip ?_
        refine hK21 _ _ ?_
        clear hK21
        refine W.seq fun K25 hK25 => ?_
        refine W.block ?_
        refine W.region ?_
        refine ops_run 3 (by kernel_rfl) ?_
        refine ops_call0 hs20 (by kernel_rfl) (rdescat_spec (i_ := i_) (k_ := p16) B _) ?_
        rintro _ _ w26 ⟨rfl, rfl⟩ hs27
        have hs28 := St.ap0 hs27
        refine ops_new (fun b => .slice (some ⟨b, 0, none⟩) 2 2) (.cells [(.int .u64 0), (.int .u64 0)].toArray 38 (0, 0)) hs28 (by kernel_rfl) (fun b31 w29 hs30 => ?_)
        have hs32 : St B w l0 w29 [kU64.row (some ⟨b31, 0, none⟩) 2 ([0, 0]), refA (ptr vb) img l14] := St.kblk kU64 [0, 0] hs30 rfl rfl (by simp only [List.length_cons, List.length_nil]; decide)
        obtain ⟨h33, hm⟩ := need_some hm
        obtain ⟨r34, h35, hm⟩ := bind_some hm
        replace h35 := some_inj h35
        have hs38 := St.f1 hs32
        refine ops_call2 hs38 (by kernel_rfl) (rall_spec (b := vb) (img := img) (l := l14) (at_ := (descAt i_ p16)) (la := (some ⟨b31, 0, none⟩)) (lc := 2) (ws := [0, 0]) (n := 2) (hn := rfl) (hsz := (by simp only [List.length_cons, List.length_nil]; omega)) (hat := h33) B _) ?_
        rintro _ _ w39 ⟨hv36, hH37⟩ hs40
        rw [h35] at hv36
        try rw [h35] at hH37
        subst hv36 hH37
        have hs41 := St.ap1 hs40
        refine ops_run 1 (by kernel_rfl) ?_
        refine ops_done (by kernel_rfl) ?_
        refine normal_block ?_
        refine hK25 _ _ ?_
        clear hK25
        refine W.region ?_
        refine ops_run 1 (by kernel_rfl) ?_
        obtain ⟨h42, hm⟩ := need_some hm
        refine ops_val (v := .int .i64 (IntKind.i64.wrap (p16 + 1))) (v' := .int .i64 (p16 + 1)) (by kernel_rfl) (congrArg (Value.int .i64) (wrap_i64 h42.1 h42.2)) ?_
        refine ops_run 1 (by kernel_rfl) ?_
        refine ops_done (by kernel_rfl) ?_
        refine loopAt_next ?_
        exact ih18 (r34.2, r34.1, (p16 + 1)) _ _ ⟨slots_intro _ (by kernel_rfl), hs41⟩ hm
      ·
        have h24p : ¬ (p15 = 0) := of_decide_eq_false h24
        replace hm := ite_no hm h24p
        refine W.exit (exit_seq (exit_seq (exit_here ?_)))
        refine hK12 _ _ ?_
        clear hK12
        refine W.seq fun K43 hK43 => ?_
        refine W.region ?_
        refine ops_run 2 (by kernel_rfl) ?_
        refine ops_done (by kernel_rfl) ?_
        refine hK43 _ _ ?_
        clear hK43
        refine W.ret ?_
        obtain rfl := some_inj hm
        refine ret_of (.int .i64 p15) (by kernel_rfl) ⟨_, ⟨rfl, rfl⟩, hs20⟩
    ·
      have h23p : ¬ (p16 < 4) := of_decide_eq_false h23
      replace hm := ite_no hm h23p
      refine ops_set 26 (v := .bool false) (eq_bool_of (by kernel_rfl) h23) ?_
      refine ops_set 25 (v := .bool false) (eq_bool_of (by kernel_rfl) h23) ?_
      refine ops_run 3 (by kernel_rfl) ?_
      refine ops_done (by kernel_rfl) ?_
      refine hK22 _ _ ?_
      clear hK22
      refine W.cond_false false (by kernel_rfl) rfl ?_
      refine W.exit (exit_seq (exit_seq (exit_here ?_)))
      refine hK12 _ _ ?_
      clear hK12
      refine W.seq fun K44 hK44 => ?_
      refine W.region ?_
      refine ops_run 2 (by kernel_rfl) ?_
      refine ops_done (by kernel_rfl) ?_
      refine hK44 _ _ ?_
      clear hK44
      refine W.ret ?_
      obtain rfl := some_inj hm
      refine ret_of (.int .i64 p15) (by kernel_rfl) ⟨_, ⟨rfl, rfl⟩, hs20⟩
  ·
    refine W.seq fun K45 hK45 => ?_
    refine W.region ?_
    refine ops_run 1 (by kernel_rfl) ?_
    refine ops_done (by kernel_rfl) ?_
    refine hK45 _ _ ?_
    clear hK45
    refine W.block ?_
    refine W.loop_iter (G := (List (Int × Int)) × Int × Int) (σ := (List (Int × Int)) × Int × Int) (fun | (l46, p47, p48) => (l46, p47, p48)) (fun | (l46, p47, p48), s_, w_ => (∃ us, s_ = slots 39 [(0, (.pointer (some ⟨vb, 0, none⟩))), (1, (.int .i64 i_)), (5, (.int .i64 p47)), (6, (.int .i64 p48))] us) ∧ St B w l0 w_ [refA (ptr vb) img l46]) (l, r3, 0) ⟨slots_intro _ (by kernel_rfl), hs7⟩ hm ?_
    rintro k49 ih50 ⟨l46, p47, p48⟩ _ w51 ⟨⟨us, rfl⟩, hs52⟩ hm
    replace hm : rwipe10_B0 img i_ k49 l46 p47 p48 = some r := hm
    unfold rwipe10_B0 at hm
    refine W.seq fun K53 hK53 => ?_
    refine W.seq fun K54 hK54 => ?_
    refine W.region ?_
    refine ops_run 3 (by kernel_rfl) ?_
    rcases Bool.eq_false_or_eq_true (decide (p48 < 4)) with h55 | h55
    ·
      have h55p : p48 < 4 := of_decide_eq_true h55
      replace hm := ite_yes hm h55p
      refine ops_set 13 (v := .bool true) (eq_bool_of (by kernel_rfl) h55) ?_
      refine ops_set 12 (v := .bool true) (eq_bool_of (by kernel_rfl) h55) ?_
      refine ops_run 3 (by kernel_rfl) ?_
      refine ops_done (by kernel_rfl) ?_
      refine hK54 _ _ ?_
      clear hK54
      refine W.cond (decide (p47 = 0)) (by kernel_rfl) (fun h56 => ?_) (fun h56 => ?_)
      ·
        have h56p : p47 = 0 := of_decide_eq_true h56
        replace hm := ite_yes hm h56p
        refine W.skip ?_
        refine hK53 _ _ ?_
        clear hK53
        refine W.seq fun K57 hK57 => ?_
        refine W.block ?_
        refine W.region ?_
        refine ops_run 3 (by kernel_rfl) ?_
        refine ops_call0 hs52 (by kernel_rfl) (rslotat_spec (i_ := i_) (k_ := p48) B _) ?_
        rintro _ _ w58 ⟨rfl, rfl⟩ hs59
        have hs60 := St.ap0 hs59
        refine ops_call1 hs60 (by kernel_rfl) (rset_spec (b := vb) (img := img) (l := l46) (at_ := (slotAt i_ p48)) (x_ := 0) B _) ?_
        rintro _ _ w61 ⟨rfl, rfl⟩ hs62
        have hs63 := St.ap1 hs62
        refine ops_run 1 (by kernel_rfl) ?_
        obtain ⟨r64, h65, hm⟩ := bind_some hm
        replace h65 := some_inj h65
        refine ops_set 5 (v := .int .i64 r64) (Eq.trans (by kernel_rfl) (congrArg (Value.int .i64) h65)) ?_
        refine ops_done (by kernel_rfl) ?_
        refine normal_block ?_
        refine hK57 _ _ ?_
        clear hK57
        refine W.region ?_
        refine ops_run 1 (by kernel_rfl) ?_
        obtain ⟨h66, hm⟩ := need_some hm
        refine ops_val (v := .int .i64 (IntKind.i64.wrap (p48 + 1))) (v' := .int .i64 (p48 + 1)) (by kernel_rfl) (congrArg (Value.int .i64) (wrap_i64 h66.1 h66.2)) ?_
        refine ops_run 1 (by kernel_rfl) ?_
        refine ops_done (by kernel_rfl) ?_
        refine loopAt_next ?_
        exact ih50 ((vwrite img l46 (slotAt i_ p48) 0).2, r64, (p48 + 1)) _ _ ⟨slots_intro _ (by kernel_rfl), hs63⟩ hm
      ·
        have h56p : ¬ (p47 = 0) := of_decide_eq_false h56
        replace hm := ite_no hm h56p
        refine W.exit (exit_seq (exit_seq (exit_here ?_)))
        exact ⟨l46, p47, slots_intro _ (by kernel_rfl), hs52, hm⟩
    ·
      have h55p : ¬ (p48 < 4) := of_decide_eq_false h55
      replace hm := ite_no hm h55p
      refine ops_set 13 (v := .bool false) (eq_bool_of (by kernel_rfl) h55) ?_
      refine ops_set 12 (v := .bool false) (eq_bool_of (by kernel_rfl) h55) ?_
      refine ops_run 3 (by kernel_rfl) ?_
      refine ops_done (by kernel_rfl) ?_
      refine hK54 _ _ ?_
      clear hK54
      refine W.cond_false false (by kernel_rfl) rfl ?_
      refine W.exit (exit_seq (exit_seq (exit_here ?_)))
      exact ⟨l46, p47, slots_intro _ (by kernel_rfl), hs52, hm⟩

end Go.Proofs.YthimamnblklkbaaDoor

/- What the code computes, by a program. -/
namespace Go.Proofs.YthimamnblklkbaaDoor
open Go Go.RowKit
set_option linter.unusedSimpArgs false
set_option linter.unusedVariables false

def rpack_J2 (tx_ : ByteArray) (k10 : ((List Int) × Nat × Int) → Option (List Int)) (p9 : Int) (q21 : List Int) (n22 : Nat) : Option (List Int) :=
  need (-9223372036854775808 ≤ (p9.tdiv 8) ∧ (p9.tdiv 8) ≤ 9223372036854775807) <|
need (-9223372036854775808 ≤ (p9.tdiv 8) ∧ (p9.tdiv 8) ≤ 9223372036854775807) <|
need (0 ≤ (p9.tdiv 8) ∧ (p9.tdiv 8) < (n22 : Int)) <|
need ((p9.tdiv 8).toNat < q21.length) <|
need (0 ≤ p9 ∧ p9 < (tx_.size : Int)) <|
need (0 ≤ (sbyte tx_ p9) ∧ (sbyte tx_ p9) ≤ 18446744073709551615) <|
need (-9223372036854775808 ≤ (8 * p9.tmod 8) ∧ (8 * p9.tmod 8) ≤ 9223372036854775807) <|
need (0 ≤ (8 * p9.tmod 8) ∧ (8 * p9.tmod 8) ≤ 18446744073709551615) <|
need (0 ≤ (8 * p9.tmod 8)) <|
need (0 ≤ (p9.tdiv 8) ∧ (p9.tdiv 8) < (n22 : Int)) <|
need ((p9.tdiv 8).toNat < q21.length) <|
need (-9223372036854775808 ≤ (p9 + 1) ∧ (p9 + 1) ≤ 9223372036854775807) <|
k10 ((q21.set ((p9.tdiv 8).toNat) (((q21.getD ((p9.tdiv 8).toNat) 0) + (shlK .u64 (sbyte tx_ p9) (8 * p9.tmod 8))) % 18446744073709551616)), n22, (p9 + 1))

def rpack_B0 (tx_ : ByteArray) (k10 : ((List Int) × Nat × Int) → Option (List Int)) (q7 : List Int) (n8 : Nat) (p9 : Int) : Option (List Int) :=
  if p9 < (tx_.size : Int) then (if p9.tmod 8 = 0 then (need (q7.length + 1 ≤ 1000000000) <|
need (n8 = q7.length) <|
rpack_J2 tx_ k10 p9 (q7 ++ [0]) ((q7 ++ [0]).length)) else (rpack_J2 tx_ k10 p9 q7 n8)) else (need (n8 = q7.length) <|
some q7)

def rpack_M (tx_ : ByteArray) : Option (List Int) :=
  iter (fun k_ s_ => rpack_B0 tx_ k_ s_.1 s_.2.1 s_.2.2) FUEL ([], 0, 0)

set_option maxRecDepth 20000 in
set_option maxHeartbeats 1000000 in
set_option linter.unusedVariables false in
theorem rpack_walk {tx_ : ByteArray}  {r : List Int} (B : Nat) (w : World) (hm : rpack_M tx_ = some r) : Spec Tryd.prog 112 #[(.string tx_)] B w [] (fun v H' => ∃ a' c', v = .slice a' r.length c' ∧ H' = [kU64.row a' c' r]) := by
  refine spec_Q Tryd.func112 rfl fun hs => ?_
  unfold rpack_M at hm
  refine W.seq fun K1 hK1 => ?_
  refine W.region ?_
  refine ops_run 1 (by kernel_rfl) ?_
  refine ops_done (by kernel_rfl) ?_
  refine hK1 _ _ ?_
  clear hK1
  refine W.seq fun K2 hK2 => ?_
  refine W.region ?_
  refine ops_run 1 (by kernel_rfl) ?_
  refine ops_done (by kernel_rfl) ?_
  refine hK2 _ _ ?_
  clear hK2
  refine W.seq fun K3 hK3 => ?_
  refine W.seq fun K4 hK4 => ?_
  refine W.region ?_
  refine ops_run 1 (by kernel_rfl) ?_
  refine ops_done (by kernel_rfl) ?_
  refine hK4 _ _ ?_
  clear hK4
  refine W.block ?_
  have hs14 := St.knil kU64 hs
  refine W.loop_iter (G := (List Int) × Nat × Int × (Option Addr) × Nat) (σ := (List Int) × Nat × Int) (fun | (q7, n8, p9, m5, m6) => (q7, n8, p9)) (fun | (q7, n8, p9, m5, m6), s_, w_ => (∃ us, s_ = slots 37 [(0, (.string tx_)), (3, (.slice m5 n8 m6)), (4, (.int .i64 p9))] us) ∧ St B w [] w_ [kU64.row m5 m6 q7]) ([], 0, 0, none, 0) ⟨slots_intro _ (by kernel_rfl), hs14⟩ hm ?_
  rintro k10 ih11 ⟨q7, n8, p9, m5, m6⟩ _ w12 ⟨⟨us, rfl⟩, hs13⟩ hm
  replace hm : rpack_B0 tx_ k10 q7 n8 p9 = some r := hm
  unfold rpack_B0 at hm
  refine W.seq fun K15 hK15 => ?_
  refine W.seq fun K16 hK16 => ?_
  refine W.region ?_
  refine ops_run 4 (by kernel_rfl) ?_
  refine ops_done (by kernel_rfl) ?_
  refine hK16 _ _ ?_
  clear hK16
  refine W.cond (decide (p9 < (tx_.size : Int))) (by kernel_rfl) (fun h17 => ?_) (fun h17 => ?_)
  ·
    have h17p : p9 < (tx_.size : Int) := of_decide_eq_true h17
    replace hm := ite_yes hm h17p
    refine W.skip ?_
    refine hK15 _ _ ?_
    clear hK15
    refine W.seq fun K18 hK18 => ?_
    refine W.block ?_
    refine W.seq_join (fun s_ w_ => ∃ (q21 : List Int) (n22 : Nat) (m19 : Option Addr) (m20 : Nat), (∃ us, s_ = slots 37 [(0, (.string tx_)), (3, (.slice m19 n22 m20)), (4, (.int .i64 p9))] us) ∧ St B w [] w_ [kU64.row m19 m20 q21] ∧ rpack_J2 tx_ k10 p9 q21 n22 = some r) ?_ ?_
    ·
      rintro _ w23 ⟨q21, n22, m19, m20, ⟨us, rfl⟩, hs24, hm⟩
      unfold rpack_J2 at hm
      have hs25 := hs24.drew
      have hs26 := St.tk0 hs25
      refine W.regionD [(0, 0), (0, 0), (2, 2), (0, 0), (0, 0), (16, 16), (40, 40), (64, 64), (0, 0), (0, 0), (768, 768), (1024, 1024), (0, 0), (4096, 4096), (8192, 8192), (16384, 16384), (34816, 34816), (65664, 65664), (262143, 5), (524287, 393216)] (fun w_ => St B w [] w_ []) (by kernel_rfl) hs26 ?_
      refine any_val (v := (.slice m19 n22 m20)) (v' := (.slice m19 n22 m20)) 0 (by kernel_rfl) (fun _ => by kernel_rfl) rfl hs26 ?_
      refine any_val (v := (.int .i64 p9)) (v' := (.int .i64 p9)) 1 (by kernel_rfl) (fun _ => by kernel_rfl) rfl hs26 ?_
      obtain ⟨h27, hm⟩ := need_some hm
      refine any_R (v := .int .i64 (p9.tdiv 8)) 2 (by kernel_rfl) (fun _ hS_ => runs_quo (k := .i64) (a := p9) (b := 8) (by kernel_rfl) (by decide) (wrap_i64 h27.1 h27.2)) hs26 ?_
      refine any_val (v := (.slice m19 n22 m20)) (v' := (.slice m19 n22 m20)) 3 (by kernel_rfl) (fun _ => by kernel_rfl) rfl hs26 ?_
      refine any_val (v := (.int .i64 p9)) (v' := (.int .i64 p9)) 4 (by kernel_rfl) (fun _ => by kernel_rfl) rfl hs26 ?_
      obtain ⟨h28, hm⟩ := need_some hm
      refine any_R (v := .int .i64 (p9.tdiv 8)) 5 (by kernel_rfl) (fun _ hS_ => runs_quo (k := .i64) (a := p9) (b := 8) (by kernel_rfl) (by decide) (wrap_i64 h28.1 h28.2)) hs26 ?_
      obtain ⟨h30, hm⟩ := need_some hm
      have hk29 := lt_toNat h30
      obtain ⟨h32, hm⟩ := need_some hm
      have hk31 := h32
      refine any_R 6 (by kernel_rfl) (fun _ hS_ => runs_index (a := m19) (n := n22) (z := (p9.tdiv 8)) (size := 1) ((p9.tdiv 8).toNat) (nat_of h30.1) hk29 (kU64.addr (St.kcells kU64 hs25 0 rfl) hk31) (by kernel_rfl)) hs26 ?_
      refine any_val (v := (.string tx_)) (v' := (.string tx_)) 8 (by kernel_rfl) (fun _ => by kernel_rfl) rfl hs26 ?_
      refine any_val (v := (.int .i64 p9)) (v' := (.int .i64 p9)) 9 (by kernel_rfl) (fun _ => by kernel_rfl) rfl hs26 ?_
      obtain ⟨h33, hm⟩ := need_some hm
      refine any_R (v := (.int .u8 (sbyte tx_ p9))) 10 (by kernel_rfl) (fun _ hS_ => runs_strIdx (b := tx_) (k := p9) h33 (by kernel_rfl)) hs26 ?_
      obtain ⟨h34, hm⟩ := need_some hm
      refine any_val (v := .int .u64 (IntKind.u64.wrap (sbyte tx_ p9))) (v' := .int .u64 (sbyte tx_ p9)) 11 (by kernel_rfl) (fun _ => by kernel_rfl) (congrArg (Value.int .u64) (wrap_u64 h34.1 (Int.lt_of_le_of_lt h34.2 (by decide)))) hs26 ?_
      refine any_val (v := (.int .i64 p9)) (v' := (.int .i64 p9)) 12 (by kernel_rfl) (fun _ => by kernel_rfl) rfl hs26 ?_
      refine any_val (v := (.int .i64 (p9.tmod 8))) (v' := (.int .i64 (p9.tmod 8))) 13 (by kernel_rfl) (fun _ => by kernel_rfl) rfl hs26 ?_
      obtain ⟨h35, hm⟩ := need_some hm
      refine any_val (v := .int .i64 (IntKind.i64.wrap (8 * p9.tmod 8))) (v' := .int .i64 (8 * p9.tmod 8)) 14 (by kernel_rfl) (fun _ => by kernel_rfl) (congrArg (Value.int .i64) (wrap_i64 h35.1 h35.2)) hs26 ?_
      obtain ⟨h36, hm⟩ := need_some hm
      refine any_val (v := .int .u64 (IntKind.u64.wrap (8 * p9.tmod 8))) (v' := .int .u64 (8 * p9.tmod 8)) 15 (by kernel_rfl) (fun _ => by kernel_rfl) (congrArg (Value.int .u64) (wrap_u64 h36.1 (Int.lt_of_le_of_lt h36.2 (by decide)))) hs26 ?_
      obtain ⟨h37, hm⟩ := need_some hm
      refine any_R (v := .int .u64 (shlK .u64 (sbyte tx_ p9) (8 * p9.tmod 8))) 16 (by kernel_rfl) (fun _ hS_ => runs_shift (b := true) (k := .u64) (x := (sbyte tx_ p9)) (y := (8 * p9.tmod 8)) (by kernel_rfl) h37) hs26 ?_
      refine any_step 7 (by kernel_rfl) (by kernel_rfl) ?_
      refine ops_R (runs_load (ad := ((adr m19 (((p9.tdiv 8).toNat) * 1)).add 0)) (v := (.int .u64 (q21.getD ((p9.tdiv 8).toNat) 0))) (by kernel_rfl) (kU64.at (St.kcells kU64 hs25 0 rfl) hk31 0 0 rfl)) ?_
      have hs38 := St.tk0 hs25
      refine ops_done (by kernel_rfl) ⟨hs38, ?_⟩
      refine any_val (v := .int .u64 (IntKind.u64.wrap ((q21.getD ((p9.tdiv 8).toNat) 0) + (shlK .u64 (sbyte tx_ p9) (8 * p9.tmod 8))))) (v' := .int .u64 (((q21.getD ((p9.tdiv 8).toNat) 0) + (shlK .u64 (sbyte tx_ p9) (8 * p9.tmod 8))) % 18446744073709551616)) 17 (by kernel_rfl) (fun _ => by kernel_rfl) (congrArg (Value.int .u64) (wrap_u64_mod _)) hs38 ?_
      obtain ⟨h40, hm⟩ := need_some hm
      have hk39 := lt_toNat h40
      obtain ⟨h42, hm⟩ := need_some hm
      have hk41 := h42
      refine any_R 18 (by kernel_rfl) (fun _ hS_ => runs_index (a := m19) (n := n22) (z := (p9.tdiv 8)) (size := 1) ((p9.tdiv 8).toNat) (nat_of h40.1) hk39 (kU64.addr (St.kcells kU64 hs25 0 rfl) hk41) (by kernel_rfl)) hs38 ?_
      refine any_step 19 (by kernel_rfl) (by kernel_rfl) ?_
      refine ops_storeK kU64 (j := 0) (vs := [(.int .u64 (((q21.getD ((p9.tdiv 8).toNat) 0) + (shlK .u64 (sbyte tx_ p9) (8 * p9.tmod 8))) % 18446744073709551616))]) 0 (((q21.getD ((p9.tdiv 8).toNat) 0) + (shlK .u64 (sbyte tx_ p9) (8 * p9.tmod 8))) % 18446744073709551616) hs25 hk41 (Nat.le_of_ble_eq_true rfl) (by simp) rfl rfl (by kernel_rfl) (fun w43 hs44 => ?_)
      have hs46 := St.tk0 hs44
      refine ops_done (by kernel_rfl) ⟨hs46, ?_⟩
      refine any_done (by kernel_rfl) ?_
      refine normal_block ?_
      refine hK18 _ _ ?_
      clear hK18
      refine W.region ?_
      refine ops_run 1 (by kernel_rfl) ?_
      obtain ⟨h47, hm⟩ := need_some hm
      refine ops_val (v := .int .i64 (IntKind.i64.wrap (p9 + 1))) (v' := .int .i64 (p9 + 1)) (by kernel_rfl) (congrArg (Value.int .i64) (wrap_i64 h47.1 h47.2)) ?_
      refine ops_run 1 (by kernel_rfl) ?_
      refine ops_done (by kernel_rfl) ?_
      refine loopAt_next ?_
      exact ih11 ((q21.set ((p9.tdiv 8).toNat) (((q21.getD ((p9.tdiv 8).toNat) 0) + (shlK .u64 (sbyte tx_ p9) (8 * p9.tmod 8))) % 18446744073709551616)), n22, (p9 + 1), m19, m20) _ _ ⟨slots_intro _ (by kernel_rfl), hs44⟩ hm
    ·
      refine W.seq fun K48 hK48 => ?_
      refine W.region ?_
      refine ops_run 3 (by kernel_rfl) ?_
      refine ops_done (by kernel_rfl) ?_
      refine hK48 _ _ ?_
      clear hK48
      refine W.cond (decide (p9.tmod 8 = 0)) (by kernel_rfl) (fun h49 => ?_) (fun h49 => ?_)
      ·
        have h49p : p9.tmod 8 = 0 := of_decide_eq_true h49
        replace hm := ite_yes hm h49p
        refine W.region ?_
        refine ops_run 1 (by kernel_rfl) ?_
        refine ops_new (fun b => .slice (some ⟨b, 0, none⟩) 1 1) (.cells [(.int .u64 0)].toArray 38 (0, 0)) hs13 (by kernel_rfl) (fun b52 w50 hs51 => ?_)
        have hs53 := St.f1 hs51
        obtain ⟨h58, hm⟩ := need_some hm
        obtain ⟨h59, hm⟩ := need_some hm
        refine ops_appendKn kU64 (bytes := 8) (a' := (some ⟨b52, 0, none⟩)) (c' := 1) (l := q7) (m := [0]) hs53 h59 rfl (by kernel_rfl) (by simp) (cells_blk (hs53.heapAt 1 rfl)) (by unfold maxLen; (try simp only [List.length_cons, List.length_nil]); omega) (by (try simp only [List.length_cons, List.length_nil]); omega) (fun a54 c55 w56 hs57 => ?_)
        refine ops_run 1 (by kernel_rfl) ?_
        refine ops_done (by kernel_rfl) ?_
        have hs60 := St.tk1 hs57
        exact ⟨(q7 ++ [0]), ((q7 ++ [0]).length), a54, c55, slots_intro _ (by kernel_rfl), hs60, hm⟩
      ·
        have h49p : ¬ (p9.tmod 8 = 0) := of_decide_eq_false h49
        replace hm := ite_no hm h49p
        refine W.skip ?_
        exact ⟨q7, n8, m5, m6, slots_intro _ (by kernel_rfl), hs13, hm⟩
  ·
    have h17p : ¬ (p9 < (tx_.size : Int)) := of_decide_eq_false h17
    replace hm := ite_no hm h17p
    refine W.exit (exit_seq (exit_seq (exit_here ?_)))
    refine hK3 _ _ ?_
    clear hK3
    refine W.seq fun K61 hK61 => ?_
    refine W.region ?_
    refine ops_run 2 (by kernel_rfl) ?_
    refine ops_done (by kernel_rfl) ?_
    refine hK61 _ _ ?_
    clear hK61
    refine W.ret ?_
    obtain ⟨h62, hm⟩ := need_some hm
    obtain rfl := some_inj hm
    refine ret_of (.slice m5 n8 m6) (by kernel_rfl) ⟨_, ⟨m5, m6, (by rw [h62]), rfl⟩, hs13⟩

end Go.Proofs.YthimamnblklkbaaDoor

/- What the code computes, by a program. -/
namespace Go.Proofs.YthimamnblklkbaaDoor
open Go Go.RowKit
set_option linter.unusedSimpArgs false
set_option linter.unusedVariables false

def rmay10_M (re_ : Int) (rs_ : ByteArray) : Option (Bool) :=
  if re_ ≥ 0 then (if re_ ≤ 24 then (some (decide ((rs_.size : Int) ≤ 64))) else (some false)) else (some false)

set_option maxRecDepth 20000 in
set_option linter.unusedVariables false in
theorem rmay10_walk {re_ : Int} {ra_ : Int} {rb_ : Int} {rs_ : ByteArray}  {r : Bool} (B : Nat) (w : World) (hm : rmay10_M re_ rs_ = some r) : Spec Tryd.prog 43 #[(.agg #[(.int .i64 re_), (.int .u64 ra_), (.int .u64 rb_), (.string rs_)])] B w [] (fun v H' => v = .bool r ∧ H' = []) := by
  refine spec_Q Tryd.func43 rfl fun hs => ?_
  unfold rmay10_M at hm
  refine W.seq fun K1 hK1 => ?_
  refine W.region ?_
  refine ops_new (fun b => .pointer (some ⟨b, 0, none⟩)) (.cells [(.int .i64 re_), (.int .u64 ra_), (.int .u64 rb_), (.string rs_)].toArray 46 (0, 0)) hs (by kernel_rfl) (fun b4 w2 hs3 => ?_)
  refine ops_run 1 (by kernel_rfl) ?_
  refine ops_done (by kernel_rfl) ?_
  refine hK1 _ _ ?_
  clear hK1
  refine W.seq fun K5 hK5 => ?_
  refine W.region ?_
  refine ops_run 1 (by kernel_rfl) ?_
  refine ops_R (runs_load (ad := ⟨b4, 0, none⟩) (v := (.int .i64 re_)) (by kernel_rfl) (hs3.cellAt 0 rfl rfl)) ?_
  refine ops_run 2 (by kernel_rfl) ?_
  rcases Bool.eq_false_or_eq_true (decide (re_ ≥ 0)) with h6 | h6
  ·
    have h6p : re_ ≥ 0 := of_decide_eq_true h6
    replace hm := ite_yes hm h6p
    refine ops_set 6 (v := .bool true) (eq_bool_of (by kernel_rfl) h6) ?_
    refine ops_set 5 (v := .bool true) (eq_bool_of (by kernel_rfl) h6) ?_
    refine ops_run 1 (by kernel_rfl) ?_
    refine ops_R (runs_load (ad := ⟨b4, 0, none⟩) (v := (.int .i64 re_)) (by kernel_rfl) (hs3.cellAt 0 rfl rfl)) ?_
    refine ops_run 3 (by kernel_rfl) ?_
    rcases Bool.eq_false_or_eq_true (decide (re_ ≤ 24)) with h7 | h7
    ·
      have h7p : re_ ≤ 24 := of_decide_eq_true h7
      replace hm := ite_yes hm h7p
      refine ops_set 11 (v := .bool true) (eq_bool_of (by kernel_rfl) h7) ?_
      refine ops_set 9 (v := .bool true) (eq_bool_of (by kernel_rfl) h7) ?_
      refine ops_set 10 (v := .bool true) (eq_bool_of (by kernel_rfl) h7) ?_
      refine ops_run 1 (by kernel_rfl) ?_
      refine ops_R (runs_load (ad := ⟨b4, 3, none⟩) (v := (.string rs_)) (by kernel_rfl) (hs3.cellAt 0 rfl rfl)) ?_
      refine ops_run 4 (by kernel_rfl) ?_
      refine ops_done (by kernel_rfl) ?_
      refine hK5 _ _ ?_
      clear hK5
      refine W.ret ?_
      obtain rfl := some_inj hm
      have hs8 := St.tk0 hs3
      refine ret_of (.bool (decide ((rs_.size : Int) ≤ 64))) (by kernel_rfl) ⟨_, ⟨rfl, rfl⟩, hs8⟩
    ·
      have h7p : ¬ (re_ ≤ 24) := of_decide_eq_false h7
      replace hm := ite_no hm h7p
      refine ops_set 11 (v := .bool false) (eq_bool_of (by kernel_rfl) h7) ?_
      refine ops_set 9 (v := .bool false) (eq_bool_of (by kernel_rfl) h7) ?_
      refine ops_set 10 (v := .bool false) (eq_bool_of (by kernel_rfl) h7) ?_
      refine ops_run 6 (by kernel_rfl) ?_
      refine ops_done (by kernel_rfl) ?_
      refine hK5 _ _ ?_
      clear hK5
      refine W.ret ?_
      obtain rfl := some_inj hm
      have hs9 := St.tk0 hs3
      refine ret_of (.bool false) (by kernel_rfl) ⟨_, ⟨rfl, rfl⟩, hs9⟩
  ·
    have h6p : ¬ (re_ ≥ 0) := of_decide_eq_false h6
    replace hm := ite_no hm h6p
    refine ops_set 6 (v := .bool false) (eq_bool_of (by kernel_rfl) h6) ?_
    refine ops_set 5 (v := .bool false) (eq_bool_of (by kernel_rfl) h6) ?_
    refine ops_run 11 (by kernel_rfl) ?_
    refine ops_done (by kernel_rfl) ?_
    refine hK5 _ _ ?_
    clear hK5
    refine W.ret ?_
    obtain rfl := some_inj hm
    have hs10 := St.tk0 hs3
    refine ret_of (.bool false) (by kernel_rfl) ⟨_, ⟨rfl, rfl⟩, hs10⟩

def smay10_M (re_ : Int) (rs_ : ByteArray) : Option (Bool) :=
  if re_ ≥ 0 then (if re_ ≤ 24 then (some (decide ((rs_.size : Int) ≤ 64))) else (some false)) else (some false)

set_option maxRecDepth 20000 in
set_option linter.unusedVariables false in
theorem smay10_walk {re_ : Int} {ra_ : Int} {rb_ : Int} {rs_ : ByteArray}  {r : Bool} (B : Nat) (w : World) (hm : smay10_M re_ rs_ = some r) : Spec Tryd.prog 42 #[(.agg #[(.int .i64 re_), (.int .u64 ra_), (.int .u64 rb_), (.string rs_)])] B w [] (fun v H' => v = .bool r ∧ H' = []) := by
  refine spec_Q Tryd.func42 rfl fun hs => ?_
  unfold smay10_M at hm
  refine W.seq fun K1 hK1 => ?_
  refine W.region ?_
  refine ops_new (fun b => .pointer (some ⟨b, 0, none⟩)) (.cells [(.int .i64 re_), (.int .u64 ra_), (.int .u64 rb_), (.string rs_)].toArray 46 (0, 0)) hs (by kernel_rfl) (fun b4 w2 hs3 => ?_)
  refine ops_run 1 (by kernel_rfl) ?_
  refine ops_done (by kernel_rfl) ?_
  refine hK1 _ _ ?_
  clear hK1
  refine W.seq fun K5 hK5 => ?_
  refine W.region ?_
  refine ops_run 1 (by kernel_rfl) ?_
  refine ops_R (runs_load (ad := ⟨b4, 0, none⟩) (v := (.int .i64 re_)) (by kernel_rfl) (hs3.cellAt 0 rfl rfl)) ?_
  refine ops_run 2 (by kernel_rfl) ?_
  rcases Bool.eq_false_or_eq_true (decide (re_ ≥ 0)) with h6 | h6
  ·
    have h6p : re_ ≥ 0 := of_decide_eq_true h6
    replace hm := ite_yes hm h6p
    refine ops_set 6 (v := .bool true) (eq_bool_of (by kernel_rfl) h6) ?_
    refine ops_set 5 (v := .bool true) (eq_bool_of (by kernel_rfl) h6) ?_
    refine ops_run 1 (by kernel_rfl) ?_
    refine ops_R (runs_load (ad := ⟨b4, 0, none⟩) (v := (.int .i64 re_)) (by kernel_rfl) (hs3.cellAt 0 rfl rfl)) ?_
    refine ops_run 3 (by kernel_rfl) ?_
    rcases Bool.eq_false_or_eq_true (decide (re_ ≤ 24)) with h7 | h7
    ·
      have h7p : re_ ≤ 24 := of_decide_eq_true h7
      replace hm := ite_yes hm h7p
      refine ops_set 11 (v := .bool true) (eq_bool_of (by kernel_rfl) h7) ?_
      refine ops_set 9 (v := .bool true) (eq_bool_of (by kernel_rfl) h7) ?_
      refine ops_set 10 (v := .bool true) (eq_bool_of (by kernel_rfl) h7) ?_
      refine ops_run 1 (by kernel_rfl) ?_
      refine ops_R (runs_load (ad := ⟨b4, 3, none⟩) (v := (.string rs_)) (by kernel_rfl) (hs3.cellAt 0 rfl rfl)) ?_
      refine ops_run 4 (by kernel_rfl) ?_
      refine ops_done (by kernel_rfl) ?_
      refine hK5 _ _ ?_
      clear hK5
      refine W.ret ?_
      obtain rfl := some_inj hm
      have hs8 := St.tk0 hs3
      refine ret_of (.bool (decide ((rs_.size : Int) ≤ 64))) (by kernel_rfl) ⟨_, ⟨rfl, rfl⟩, hs8⟩
    ·
      have h7p : ¬ (re_ ≤ 24) := of_decide_eq_false h7
      replace hm := ite_no hm h7p
      refine ops_set 11 (v := .bool false) (eq_bool_of (by kernel_rfl) h7) ?_
      refine ops_set 9 (v := .bool false) (eq_bool_of (by kernel_rfl) h7) ?_
      refine ops_set 10 (v := .bool false) (eq_bool_of (by kernel_rfl) h7) ?_
      refine ops_run 6 (by kernel_rfl) ?_
      refine ops_done (by kernel_rfl) ?_
      refine hK5 _ _ ?_
      clear hK5
      refine W.ret ?_
      obtain rfl := some_inj hm
      have hs9 := St.tk0 hs3
      refine ret_of (.bool false) (by kernel_rfl) ⟨_, ⟨rfl, rfl⟩, hs9⟩
  ·
    have h6p : ¬ (re_ ≥ 0) := of_decide_eq_false h6
    replace hm := ite_no hm h6p
    refine ops_set 6 (v := .bool false) (eq_bool_of (by kernel_rfl) h6) ?_
    refine ops_set 5 (v := .bool false) (eq_bool_of (by kernel_rfl) h6) ?_
    refine ops_run 11 (by kernel_rfl) ?_
    refine ops_done (by kernel_rfl) ?_
    refine hK5 _ _ ?_
    clear hK5
    refine W.ret ?_
    obtain rfl := some_inj hm
    have hs10 := St.tk0 hs3
    refine ret_of (.bool false) (by kernel_rfl) ⟨_, ⟨rfl, rfl⟩, hs10⟩

end Go.Proofs.YthimamnblklkbaaDoor

/- What the code computes, by a program. -/
namespace Go.Proofs.YthimamnblklkbaaDoor
open Go Go.RowKit
set_option linter.unusedSimpArgs false
set_option linter.unusedVariables false

def rsave_M (img : List Int) (l : List (Int × Int)) (i_ : Int) (k_ : Int) (q_ : Int) (re_ : Int) (ra_ : Int) (rb_ : Int) (rs_ : ByteArray) : Option (Int × List (Int × Int)) :=
  if i_ < 0 then (some (1, l)) else (if i_ ≥ 4 then (some (1, l)) else (if k_ < 0 then (some (1, l)) else (if k_ ≥ 4 then (some (1, l)) else (if q_ < 1 then (some (1, l)) else (if q_ > 1099511627776 then (some (1, l)) else ((rmay10_M re_ rs_).bind fun r31 =>
if r31 = true then ((rthere_M img i_ k_).bind fun r38 =>
if r38 = 0 then (need (0 ≤ re_ ∧ re_ ≤ 18446744073709551615) <|
need (0 ≤ (rs_.size : Int) ∧ (rs_.size : Int) ≤ 18446744073709551615) <|
(rpack_M rs_).bind fun r59 =>
need (r59.length ≤ 1000000) <|
need (-9223372036854775808 ≤ ((slotAt i_ k_) + 1) ∧ ((slotAt i_ k_) + 1) ≤ 9223372036854775807) <|
need ((([((re_ + ((256 * (rs_.size : Int)) % 18446744073709551616)) % 18446744073709551616), ra_, rb_] ++ r59) : List Int).length ≤ 1000000) <|
need (-1 ≤ ((slotAt i_ k_) + 1) ∧ ((slotAt i_ k_) + 1) ≤ 1000000) <|
(some (vwrites img ((slotAt i_ k_) + 1) l 0 ([((re_ + ((256 * (rs_.size : Int)) % 18446744073709551616)) % 18446744073709551616), ra_, rb_] ++ r59))).bind fun r75 =>
if r75.1 = 0 then ((some ((vwrite img r75.2 (slotAt i_ k_) q_).1)).bind fun r90 =>
some (r90, (vwrite img r75.2 (slotAt i_ k_) q_).2)) else (some (r75.1, r75.2))) else (some (r38, l))) else (some (1, l))))))))

set_option maxRecDepth 20000 in
set_option maxHeartbeats 2000000 in
set_option linter.unusedVariables false in
theorem rsave_walk {img : List Int} {l : List (Int × Int)} {i_ : Int} {k_ : Int} {q_ : Int} {re_ : Int} {ra_ : Int} {rb_ : Int} {rs_ : ByteArray} {vb : Nat} {r : Int × List (Int × Int)} (B : Nat) (w : World) (hm : rsave_M img l i_ k_ q_ re_ ra_ rb_ rs_ = some r) : Spec Tryd.prog 47 #[(.pointer (some ⟨vb, 0, none⟩)), (.int .i64 i_), (.int .i64 k_), (.int .u64 q_), (.agg #[(.int .i64 re_), (.int .u64 ra_), (.int .u64 rb_), (.string rs_)])] B w [refA (ptr vb) img l] (fun v H' => v = (.int .i64 r.1) ∧ H' = [refA (ptr vb) img r.2]) := by
  refine spec_W Tryd.func47 rfl fun l0 hs => ?_
  unfold rsave_M at hm
  refine W.seq fun K1 hK1 => ?_
  refine W.region ?_
  refine ops_new (fun b => .pointer (some ⟨b, 0, none⟩)) (.cells [(.int .i64 re_), (.int .u64 ra_), (.int .u64 rb_), (.string rs_)].toArray 46 (0, 0)) hs (by kernel_rfl) (fun b4 w2 hs3 => ?_)
  refine ops_run 1 (by kernel_rfl) ?_
  refine ops_done (by kernel_rfl) ?_
  refine hK1 _ _ ?_
  clear hK1
  refine W.seq fun K5 hK5 => ?_
  refine W.seq fun K6 hK6 => ?_
  refine W.region ?_
  refine ops_run 3 (by kernel_rfl) ?_
  rcases Bool.eq_false_or_eq_true (decide (i_ < 0)) with h7 | h7
  ·
    have h7p : i_ < 0 := of_decide_eq_true h7
    replace hm := ite_yes hm h7p
    refine ops_set 16 (v := .bool true) (eq_bool_of (by kernel_rfl) h7) ?_
    refine ops_set 15 (v := .bool true) (eq_bool_of (by kernel_rfl) h7) ?_
    refine ops_run 24 (by kernel_rfl) ?_
    refine ops_done (by kernel_rfl) ?_
    refine hK6 _ _ ?_
    clear hK6
    refine W.cond_true true (by kernel_rfl) rfl ?_
    refine W.seq fun K8 hK8 => ?_
    refine W.region ?_
    refine ops_run 1 (by kernel_rfl) ?_
    refine ops_done (by kernel_rfl) ?_
    refine hK8 _ _ ?_
    clear hK8
    refine W.ret (ret_seq ?_)
    obtain rfl := some_inj hm
    have hs9 := St.f1 hs3
    have hs10 := St.tk1 hs9
    refine ret_of (.int .i64 1) (by kernel_rfl) ⟨_, ⟨rfl, rfl⟩, hs10⟩
  ·
    have h7p : ¬ (i_ < 0) := of_decide_eq_false h7
    replace hm := ite_no hm h7p
    refine ops_set 16 (v := .bool false) (eq_bool_of (by kernel_rfl) h7) ?_
    refine ops_set 15 (v := .bool false) (eq_bool_of (by kernel_rfl) h7) ?_
    refine ops_run 4 (by kernel_rfl) ?_
    rcases Bool.eq_false_or_eq_true (decide (i_ ≥ 4)) with h11 | h11
    ·
      have h11p : i_ ≥ 4 := of_decide_eq_true h11
      replace hm := ite_yes hm h11p
      refine ops_set 20 (v := .bool true) (eq_bool_of (by kernel_rfl) h11) ?_
      refine ops_set 18 (v := .bool true) (eq_bool_of (by kernel_rfl) h11) ?_
      refine ops_set 19 (v := .bool true) (eq_bool_of (by kernel_rfl) h11) ?_
      refine ops_run 20 (by kernel_rfl) ?_
      refine ops_done (by kernel_rfl) ?_
      refine hK6 _ _ ?_
      clear hK6
      refine W.cond_true true (by kernel_rfl) rfl ?_
      refine W.seq fun K12 hK12 => ?_
      refine W.region ?_
      refine ops_run 1 (by kernel_rfl) ?_
      refine ops_done (by kernel_rfl) ?_
      refine hK12 _ _ ?_
      clear hK12
      refine W.ret (ret_seq ?_)
      obtain rfl := some_inj hm
      have hs13 := St.f1 hs3
      have hs14 := St.tk1 hs13
      refine ret_of (.int .i64 1) (by kernel_rfl) ⟨_, ⟨rfl, rfl⟩, hs14⟩
    ·
      have h11p : ¬ (i_ ≥ 4) := of_decide_eq_false h11
      replace hm := ite_no hm h11p
      refine ops_set 20 (v := .bool false) (eq_bool_of (by kernel_rfl) h11) ?_
      refine ops_set 18 (v := .bool false) (eq_bool_of (by kernel_rfl) h11) ?_
      refine ops_set 19 (v := .bool false) (eq_bool_of (by kernel_rfl) h11) ?_
      refine ops_run 4 (by kernel_rfl) ?_
      rcases Bool.eq_false_or_eq_true (decide (k_ < 0)) with h15 | h15
      ·
        have h15p : k_ < 0 := of_decide_eq_true h15
        replace hm := ite_yes hm h15p
        refine ops_set 24 (v := .bool true) (eq_bool_of (by kernel_rfl) h15) ?_
        refine ops_set 22 (v := .bool true) (eq_bool_of (by kernel_rfl) h15) ?_
        refine ops_set 23 (v := .bool true) (eq_bool_of (by kernel_rfl) h15) ?_
        refine ops_run 16 (by kernel_rfl) ?_
        refine ops_done (by kernel_rfl) ?_
        refine hK6 _ _ ?_
        clear hK6
        refine W.cond_true true (by kernel_rfl) rfl ?_
        refine W.seq fun K16 hK16 => ?_
        refine W.region ?_
        refine ops_run 1 (by kernel_rfl) ?_
        refine ops_done (by kernel_rfl) ?_
        refine hK16 _ _ ?_
        clear hK16
        refine W.ret (ret_seq ?_)
        obtain rfl := some_inj hm
        have hs17 := St.f1 hs3
        have hs18 := St.tk1 hs17
        refine ret_of (.int .i64 1) (by kernel_rfl) ⟨_, ⟨rfl, rfl⟩, hs18⟩
      ·
        have h15p : ¬ (k_ < 0) := of_decide_eq_false h15
        replace hm := ite_no hm h15p
        refine ops_set 24 (v := .bool false) (eq_bool_of (by kernel_rfl) h15) ?_
        refine ops_set 22 (v := .bool false) (eq_bool_of (by kernel_rfl) h15) ?_
        refine ops_set 23 (v := .bool false) (eq_bool_of (by kernel_rfl) h15) ?_
        refine ops_run 4 (by kernel_rfl) ?_
        rcases Bool.eq_false_or_eq_true (decide (k_ ≥ 4)) with h19 | h19
        ·
          have h19p : k_ ≥ 4 := of_decide_eq_true h19
          replace hm := ite_yes hm h19p
          refine ops_set 28 (v := .bool true) (eq_bool_of (by kernel_rfl) h19) ?_
          refine ops_set 26 (v := .bool true) (eq_bool_of (by kernel_rfl) h19) ?_
          refine ops_set 27 (v := .bool true) (eq_bool_of (by kernel_rfl) h19) ?_
          refine ops_run 12 (by kernel_rfl) ?_
          refine ops_done (by kernel_rfl) ?_
          refine hK6 _ _ ?_
          clear hK6
          refine W.cond_true true (by kernel_rfl) rfl ?_
          refine W.seq fun K20 hK20 => ?_
          refine W.region ?_
          refine ops_run 1 (by kernel_rfl) ?_
          refine ops_done (by kernel_rfl) ?_
          refine hK20 _ _ ?_
          clear hK20
          refine W.ret (ret_seq ?_)
          obtain rfl := some_inj hm
          have hs21 := St.f1 hs3
          have hs22 := St.tk1 hs21
          refine ret_of (.int .i64 1) (by kernel_rfl) ⟨_, ⟨rfl, rfl⟩, hs22⟩
        ·
          have h19p : ¬ (k_ ≥ 4) := of_decide_eq_false h19
          replace hm := ite_no hm h19p
          refine ops_set 28 (v := .bool false) (eq_bool_of (by kernel_rfl) h19) ?_
          refine ops_set 26 (v := .bool false) (eq_bool_of (by kernel_rfl) h19) ?_
          refine ops_set 27 (v := .bool false) (eq_bool_of (by kernel_rfl) h19) ?_
          refine ops_run 4 (by kernel_rfl) ?_
          rcases Bool.eq_false_or_eq_true (decide (q_ < 1)) with h23 | h23
          ·
            have h23p : q_ < 1 := of_decide_eq_true h23
            replace hm := ite_yes hm h23p
            refine ops_set 32 (v := .bool true) (eq_bool_of (by kernel_rfl) h23) ?_
            refine ops_set 30 (v := .bool true) (eq_bool_of (by kernel_rfl) h23) ?_
            refine ops_set 31 (v := .bool true) (eq_bool_of (by kernel_rfl) h23) ?_
            refine ops_run 8 (by kernel_rfl) ?_
            refine ops_done (by kernel_rfl) ?_
            refine hK6 _ _ ?_
            clear hK6
            refine W.cond_true true (by kernel_rfl) rfl ?_
            refine W.seq fun K24 hK24 => ?_
            refine W.region ?_
            refine ops_run 1 (by kernel_rfl) ?_
            refine ops_done (by kernel_rfl) ?_
            refine hK24 _ _ ?_
            clear hK24
            refine W.ret (ret_seq ?_)
            obtain rfl := some_inj hm
            have hs25 := St.f1 hs3
            have hs26 := St.tk1 hs25
            refine ret_of (.int .i64 1) (by kernel_rfl) ⟨_, ⟨rfl, rfl⟩, hs26⟩
          ·
            have h23p : ¬ (q_ < 1) := of_decide_eq_false h23
            replace hm := ite_no hm h23p
            refine ops_set 32 (v := .bool false) (eq_bool_of (by kernel_rfl) h23) ?_
            refine ops_set 30 (v := .bool false) (eq_bool_of (by kernel_rfl) h23) ?_
            refine ops_set 31 (v := .bool false) (eq_bool_of (by kernel_rfl) h23) ?_
            refine ops_run 4 (by kernel_rfl) ?_
            rcases Bool.eq_false_or_eq_true (decide (q_ > 1099511627776)) with h27 | h27
            ·
              have h27p : q_ > 1099511627776 := of_decide_eq_true h27
              replace hm := ite_yes hm h27p
              refine ops_set 36 (v := .bool true) (eq_bool_of (by kernel_rfl) h27) ?_
              refine ops_set 34 (v := .bool true) (eq_bool_of (by kernel_rfl) h27) ?_
              refine ops_set 35 (v := .bool true) (eq_bool_of (by kernel_rfl) h27) ?_
              refine ops_run 4 (by kernel_rfl) ?_
              refine ops_done (by kernel_rfl) ?_
              refine hK6 _ _ ?_
              clear hK6
              refine W.cond_true true (by kernel_rfl) rfl ?_
              refine W.seq fun K28 hK28 => ?_
              refine W.region ?_
              refine ops_run 1 (by kernel_rfl) ?_
              refine ops_done (by kernel_rfl) ?_
              refine hK28 _ _ ?_
              clear hK28
              refine W.ret (ret_seq ?_)
              obtain rfl := some_inj hm
              have hs29 := St.f1 hs3
              have hs30 := St.tk1 hs29
              refine ret_of (.int .i64 1) (by kernel_rfl) ⟨_, ⟨rfl, rfl⟩, hs30⟩
            ·
              have h27p : ¬ (q_ > 1099511627776) := of_decide_eq_false h27
              replace hm := ite_no hm h27p
              refine ops_set 36 (v := .bool false) (eq_bool_of (by kernel_rfl) h27) ?_
              refine ops_set 34 (v := .bool false) (eq_bool_of (by kernel_rfl) h27) ?_
              refine ops_set 35 (v := .bool false) (eq_bool_of (by kernel_rfl) h27) ?_
              refine ops_R (runs_loadAgg (ad := ⟨b4, 0, none⟩) (cs := [(.int .i64 re_), (.int .u64 ra_), (.int .u64 rb_), (.string rs_)]) (by kernel_rfl) (cells_sub (hs3.heapAt 0 rfl) rfl)) ?_
              obtain ⟨r31, h32, hm⟩ := bind_some hm
              refine ops_call0 hs3 (by kernel_rfl) (rmay10_walk (re_ := re_) (ra_ := ra_) (rb_ := rb_) (rs_ := rs_) (hm := h32) B _) ?_
              rintro _ _ w33 ⟨rfl, rfl⟩ hs34
              have hs35 := St.ap0 hs34
              refine ops_run 2 (by kernel_rfl) ?_
              refine ops_done (by kernel_rfl) ?_
              refine hK6 _ _ ?_
              clear hK6
              refine W.cond (!r31) (by kernel_rfl) (fun h36 => ?_) (fun h36 => ?_)
              rotate_left
              ·
                have h36p : r31 = true := (bnot_false h36)
                replace hm := ite_yes hm h36p
                refine W.skip ?_
                refine hK5 _ _ ?_
                clear hK5
                refine W.seq fun K37 hK37 => ?_
                refine W.region ?_
                refine ops_run 3 (by kernel_rfl) ?_
                obtain ⟨r38, h39, hm⟩ := bind_some hm
                refine ops_call0 hs35 (by kernel_rfl) (rthere_walk (i_ := i_) (k_ := k_) (img := img) (l := l) (hv := (hs35.entAt 1 rfl refA_at)) (hm := h39) B _) ?_
                rintro _ _ w40 ⟨rfl, rfl⟩ hs41
                have hs42 := St.ap0 hs41
                refine ops_run 1 (by kernel_rfl) ?_
                refine ops_done (by kernel_rfl) ?_
                refine hK37 _ _ ?_
                clear hK37
                refine W.seq fun K43 hK43 => ?_
                refine W.seq fun K44 hK44 => ?_
                refine W.region ?_
                refine ops_run 2 (by kernel_rfl) ?_
                refine ops_done (by kernel_rfl) ?_
                refine hK44 _ _ ?_
                clear hK44
                refine W.cond (!decide (r38 = 0)) (by kernel_rfl) (fun h45 => ?_) (fun h45 => ?_)
                rotate_left
                ·
                  have h45p : r38 = 0 := of_decide_eq_true (bnot_false h45)
                  replace hm := ite_yes hm h45p
                  refine W.skip ?_
                  refine hK43 _ _ ?_
                  clear hK43
                  refine W.seq fun K46 hK46 => ?_
                  refine W.region ?_
                  refine ops_run 2 (by kernel_rfl) ?_
                  refine ops_call0 hs42 (by kernel_rfl) (rslotat_spec (i_ := i_) (k_ := k_) B _) ?_
                  rintro _ _ w47 ⟨rfl, rfl⟩ hs48
                  have hs49 := St.ap0 hs48
                  refine ops_run 1 (by kernel_rfl) ?_
                  refine ops_done (by kernel_rfl) ?_
                  refine hK46 _ _ ?_
                  clear hK46
                  refine W.seq fun K50 hK50 => ?_
                  refine W.region ?_
                  refine ops_run 1 (by kernel_rfl) ?_
                  refine ops_R (runs_load (ad := ⟨b4, 0, none⟩) (v := (.int .i64 re_)) (by kernel_rfl) (hs49.cellAt 0 rfl rfl)) ?_
                  obtain ⟨h51, hm⟩ := need_some hm
                  refine ops_val (v := .int .u64 (IntKind.u64.wrap re_)) (v' := .int .u64 re_) (by kernel_rfl) (congrArg (Value.int .u64) (wrap_u64 h51.1 (Int.lt_of_le_of_lt h51.2 (by decide)))) ?_
                  refine ops_run 1 (by kernel_rfl) ?_
                  refine ops_R (runs_load (ad := ⟨b4, 3, none⟩) (v := (.string rs_)) (by kernel_rfl) (hs49.cellAt 0 rfl rfl)) ?_
                  refine ops_run 1 (by kernel_rfl) ?_
                  obtain ⟨h52, hm⟩ := need_some hm
                  refine ops_val (v := .int .u64 (IntKind.u64.wrap (rs_.size : Int))) (v' := .int .u64 (rs_.size : Int)) (by kernel_rfl) (congrArg (Value.int .u64) (wrap_u64 h52.1 (Int.lt_of_le_of_lt h52.2 (by decide)))) ?_
                  refine ops_val (v := .int .u64 (IntKind.u64.wrap (256 * (rs_.size : Int)))) (v' := .int .u64 ((256 * (rs_.size : Int)) % 18446744073709551616)) (by kernel_rfl) (congrArg (Value.int .u64) (wrap_u64_mod _)) ?_
                  refine ops_val (v := .int .u64 (IntKind.u64.wrap (re_ + ((256 * (rs_.size : Int)) % 18446744073709551616)))) (v' := .int .u64 ((re_ + ((256 * (rs_.size : Int)) % 18446744073709551616)) % 18446744073709551616)) (by kernel_rfl) (congrArg (Value.int .u64) (wrap_u64_mod _)) ?_
                  refine ops_run 1 (by kernel_rfl) ?_
                  refine ops_R (runs_load (ad := ⟨b4, 1, none⟩) (v := (.int .u64 ra_)) (by kernel_rfl) (hs49.cellAt 0 rfl rfl)) ?_
                  refine ops_run 1 (by kernel_rfl) ?_
                  refine ops_R (runs_load (ad := ⟨b4, 2, none⟩) (v := (.int .u64 rb_)) (by kernel_rfl) (hs49.cellAt 0 rfl rfl)) ?_
                  refine ops_new (fun b => .slice (some ⟨b, 0, none⟩) 3 3) (.cells [(.int .u64 ((re_ + ((256 * (rs_.size : Int)) % 18446744073709551616)) % 18446744073709551616)), (.int .u64 ra_), (.int .u64 rb_)].toArray 38 (0, 0)) hs49 (by kernel_rfl) (fun b55 w53 hs54 => ?_)
                  refine ops_run 1 (by kernel_rfl) ?_
                  refine ops_done (by kernel_rfl) ?_
                  refine hK50 _ _ ?_
                  clear hK50
                  refine W.seq fun K56 hK56 => ?_
                  refine W.region ?_
                  refine ops_run 2 (by kernel_rfl) ?_
                  refine ops_R (runs_load (ad := ⟨b4, 3, none⟩) (v := (.string rs_)) (by kernel_rfl) (hs54.cellAt 1 rfl rfl)) ?_
                  obtain ⟨r59, h60, hm⟩ := bind_some hm
                  refine ops_call0 hs54 (by kernel_rfl) (rpack_walk (hm := h60) B _) ?_
                  rintro _ _ w61 ⟨a57, c58, rfl, rfl⟩ hs62
                  have hs63 := St.ap1 hs62
                  have hs64 := St.f1 hs63
                  have hs65 : St B w l0 w61 [kU64.row (some ⟨b55, 0, none⟩) 3 ([((re_ + ((256 * (rs_.size : Int)) % 18446744073709551616)) % 18446744073709551616), ra_, rb_]), kU64.row a57 c58 r59, blk b4 (.cells [(.int .i64 re_), (.int .u64 ra_), (.int .u64 rb_), (.string rs_)].toArray 46 (0, 0)), refA (ptr vb) img l] := St.kblk kU64 [((re_ + ((256 * (rs_.size : Int)) % 18446744073709551616)) % 18446744073709551616), ra_, rb_] hs64 rfl rfl (by simp only [List.length_cons, List.length_nil]; decide)
                  obtain ⟨h70, hm⟩ := need_some hm
                  refine ops_appendK kU64 (bytes := 8) (a' := a57) (c' := c58) (l := [((re_ + ((256 * (rs_.size : Int)) % 18446744073709551616)) % 18446744073709551616), ra_, rb_]) (m := r59) hs65 (by kernel_rfl) (St.capnil kU64 hs65 1 rfl) (St.kcells kU64 hs65 1 rfl) (by unfold maxLen; (try simp only [List.length_cons, List.length_nil]); omega) (by (try simp only [List.length_cons, List.length_nil]); omega) (fun a66 c67 w68 hs69 => ?_)
                  refine ops_run 1 (by kernel_rfl) ?_
                  refine ops_done (by kernel_rfl) ?_
                  refine hK56 _ _ ?_
                  clear hK56
                  refine W.seq fun K71 hK71 => ?_
                  refine W.region ?_
                  refine ops_run 2 (by kernel_rfl) ?_
                  obtain ⟨h72, hm⟩ := need_some hm
                  refine ops_val (v := .int .i64 (IntKind.i64.wrap ((slotAt i_ k_) + 1))) (v' := .int .i64 ((slotAt i_ k_) + 1)) (by kernel_rfl) (congrArg (Value.int .i64) (wrap_i64 h72.1 h72.2)) ?_
                  refine ops_run 1 (by kernel_rfl) ?_
                  obtain ⟨h73, hm⟩ := need_some hm
                  obtain ⟨h74, hm⟩ := need_some hm
                  obtain ⟨r75, h76, hm⟩ := bind_some hm
                  replace h76 := some_inj h76
                  have hs79 := St.f3 hs69
                  refine ops_call2 hs79 (by kernel_rfl) (rall_spec (b := vb) (img := img) (l := l) (at_ := ((slotAt i_ k_) + 1)) (la := a66) (lc := c67) (ws := ([((re_ + ((256 * (rs_.size : Int)) % 18446744073709551616)) % 18446744073709551616), ra_, rb_] ++ r59)) (n := ([((re_ + ((256 * (rs_.size : Int)) % 18446744073709551616)) % 18446744073709551616), ra_, rb_] ++ r59).length) (hn := rfl) (hsz := h73) (hat := h74) B _) ?_
                  rintro _ _ w80 ⟨hv77, hH78⟩ hs81
                  rw [h76] at hv77
                  try rw [h76] at hH78
                  subst hv77 hH78
                  have hs82 := St.ap1 hs81
                  refine ops_run 1 (by kernel_rfl) ?_
                  refine ops_done (by kernel_rfl) ?_
                  refine hK71 _ _ ?_
                  clear hK71
                  refine W.seq fun K83 hK83 => ?_
                  refine W.seq fun K84 hK84 => ?_
                  refine W.region ?_
                  refine ops_run 2 (by kernel_rfl) ?_
                  refine ops_done (by kernel_rfl) ?_
                  refine hK84 _ _ ?_
                  clear hK84
                  refine W.cond (!decide (r75.1 = 0)) (by kernel_rfl) (fun h85 => ?_) (fun h85 => ?_)
                  rotate_left
                  ·
                    have h85p : r75.1 = 0 := of_decide_eq_true (bnot_false h85)
                    replace hm := ite_yes hm h85p
                    refine W.skip ?_
                    refine hK83 _ _ ?_
                    clear hK83
                    refine W.seq fun K86 hK86 => ?_
                    refine W.region ?_
                    refine ops_run 3 (by kernel_rfl) ?_
                    refine ops_call1 hs82 (by kernel_rfl) (rset_spec (b := vb) (img := img) (l := r75.2) (at_ := (slotAt i_ k_)) (x_ := q_) B _) ?_
                    rintro _ _ w87 ⟨rfl, rfl⟩ hs88
                    have hs89 := St.ap1 hs88
                    refine ops_run 1 (by kernel_rfl) ?_
                    obtain ⟨r90, h91, hm⟩ := bind_some hm
                    replace h91 := some_inj h91
                    refine ops_set 10 (v := .int .i64 r90) (Eq.trans (by kernel_rfl) (congrArg (Value.int .i64) h91)) ?_
                    refine ops_done (by kernel_rfl) ?_
                    refine hK86 _ _ ?_
                    clear hK86
                    refine W.ret ?_
                    obtain rfl := some_inj hm
                    have hs92 := St.tk1 hs89
                    refine ret_of (.int .i64 r90) (by kernel_rfl) ⟨_, ⟨rfl, rfl⟩, hs92⟩
                  ·
                    have h85p : ¬ (r75.1 = 0) := of_decide_eq_false (bnot_true h85)
                    replace hm := ite_no hm h85p
                    refine W.seq fun K93 hK93 => ?_
                    refine W.region ?_
                    refine ops_run 2 (by kernel_rfl) ?_
                    refine ops_done (by kernel_rfl) ?_
                    refine hK93 _ _ ?_
                    clear hK93
                    refine W.ret (ret_seq ?_)
                    obtain rfl := some_inj hm
                    have hs94 := St.tk1 hs82
                    refine ret_of (.int .i64 r75.1) (by kernel_rfl) ⟨_, ⟨rfl, rfl⟩, hs94⟩
                ·
                  have h45p : ¬ (r38 = 0) := of_decide_eq_false (bnot_true h45)
                  replace hm := ite_no hm h45p
                  refine W.seq fun K95 hK95 => ?_
                  refine W.region ?_
                  refine ops_run 2 (by kernel_rfl) ?_
                  refine ops_done (by kernel_rfl) ?_
                  refine hK95 _ _ ?_
                  clear hK95
                  refine W.ret (ret_seq ?_)
                  obtain rfl := some_inj hm
                  have hs96 := St.f1 hs42
                  have hs97 := St.tk1 hs96
                  refine ret_of (.int .i64 r38) (by kernel_rfl) ⟨_, ⟨rfl, rfl⟩, hs97⟩
              ·
                have h36p : ¬ (r31 = true) := ne_true_of_eq_false (bnot_true h36)
                replace hm := ite_no hm h36p
                refine W.seq fun K98 hK98 => ?_
                refine W.region ?_
                refine ops_run 1 (by kernel_rfl) ?_
                refine ops_done (by kernel_rfl) ?_
                refine hK98 _ _ ?_
                clear hK98
                refine W.ret (ret_seq ?_)
                obtain rfl := some_inj hm
                have hs99 := St.f1 hs35
                have hs100 := St.tk1 hs99
                refine ret_of (.int .i64 1) (by kernel_rfl) ⟨_, ⟨rfl, rfl⟩, hs100⟩

end Go.Proofs.YthimamnblklkbaaDoor
