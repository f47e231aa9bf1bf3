/- What the code computes, by a program. -/
import Derived.Test.YthimamnblklkbaaDoorA6n
import Derived.Test.YthimamnblklkbaaDoorF06o
import Derived.Test.YthimamnblklkbaaDoorA6b
import Derived.Test.YthimamnblklkbaaDoorF06a
namespace Go.Proofs.YthimamnblklkbaaDoor
open Go Go.RowKit
set_option linter.unusedSimpArgs false
set_option linter.unusedVariables false

def works06_M  : Option (Bool) :=
  need ((([5]).length : Int) ≤ 1000000000000) <|
need ((0 ≤ (0 : Int) ∧ (0 : Int) < (([5]).length : Int)) ∧ (1 ≤ (8 : Int) ∧ (8 : Int) ≤ 1000000000000) ∧ ((8 : Int) - 1) / 64 < (([5]).length : Int) - (0 : Int)) <|
need ((([5]).length : Int) ≤ 1000000000000) <|
need ((0 ≤ (0 : Int) ∧ (0 : Int) < (([5]).length : Int)) ∧ (1 ≤ (65 : Int) ∧ (65 : Int) ≤ 1000000000000) ∧ ¬ ((65 : Int) - 1) / 64 < (([5]).length : Int) - (0 : Int)) <|
(mclear_M ([5]) ([]) 0 8).bind fun r27 =>
(mcount_M ([5]) ([]) 0 8).bind fun r33 =>
(mset_M ([5]) ([]) 0 8 1 true).bind fun r39 =>
if r27.1 = 1 then (if r27.2 = true then (if r33 = 2 then (if r39.1 = 0 then (some (decide ((vget ([5]) r39.2 0) = 7))) else (some false)) else (some false)) else (some false)) else (some false)

set_option maxRecDepth 20000 in
set_option maxHeartbeats 4000000 in
set_option linter.unusedVariables false in
theorem works06_walk   {r : Bool} (B : Nat) (w : World) (hT : CellsAt (some ⟨0, 0, none⟩) tab8 w) (hm : works06_M = some r) : Spec Tryd.prog 26 #[] B w [] (fun v H' => v = .bool r ∧ H' = []) := by
  refine spec_Q Tryd.func26 rfl fun hs => ?_
  unfold works06_M at hm
  refine W.seq fun K1 hK1 => ?_
  refine W.region ?_
  refine ops_run 1 (by kernel_rfl) ?_
  refine ops_done (by kernel_rfl) ?_
  refine hK1 _ _ ?_
  clear hK1
  refine W.seq fun K2 hK2 => ?_
  refine W.region ?_
  refine ops_new (fun b => .slice (some ⟨b, 0, none⟩) 1 1) (.cells [(.int .u64 5)].toArray 38 (0, 0)) hs (by kernel_rfl) (fun b5 w3 hs4 => ?_)
  have hs6 : St B w [] w3 [kU64.row (some ⟨b5, 0, none⟩) 1 ([5])] := St.kblk kU64 [5] hs4 rfl rfl (by simp only [List.length_cons, List.length_nil]; decide)
  refine ops_call (pre := []) hs6 (by kernel_rfl) (new_spec (hc := (St.kcells kU64 hs6 0 rfl)) (hn := (St.capnil kU64 hs6 0 rfl)) (hsz := (by decide)) B _) ?_
  rintro _ _ w8 ⟨b7, rfl, rfl⟩ hs9
  have hs10 : St B w [] w8 [viewA (ptr b7) ([5]) ([]), kU64.row (some ⟨b5, 0, none⟩) 1 ([5])] := hs9
  refine ops_run 1 (by kernel_rfl) ?_
  refine ops_done (by kernel_rfl) ?_
  refine hK2 _ _ ?_
  clear hK2
  refine W.seq fun K11 hK11 => ?_
  refine W.region ?_
  refine ops_run 1 (by kernel_rfl) ?_
  obtain ⟨h12, hm⟩ := need_some hm
  obtain ⟨h13, hm⟩ := need_some hm
  refine ops_call (pre := []) hs10 (by kernel_rfl) (of_ok (hv := (hs10.entAt 0 rfl viewA_at)) (hz := h12) (ho := h13) B _) ?_
  rintro _ _ w15 ⟨b14, rfl, rfl⟩ hs16
  have hs17 : St B w [] w15 [blk b14 (.cells [(.pointer (some ⟨b7, 0, none⟩)), (.int .i64 0), (.int .i64 8)].toArray 151 (0, 0)), viewA (ptr b7) ([5]) ([]), kU64.row (some ⟨b5, 0, none⟩) 1 ([5])] := hs16
  refine ops_run 5 (by kernel_rfl) ?_
  refine ops_done (by kernel_rfl) ?_
  refine hK11 _ _ ?_
  clear hK11
  refine W.seq fun K18 hK18 => ?_
  refine W.region ?_
  refine ops_run 1 (by kernel_rfl) ?_
  obtain ⟨h19, hm⟩ := need_some hm
  obtain ⟨h20, hm⟩ := need_some hm
  refine ops_call (pre := []) hs17 (by kernel_rfl) (of_range (hv := (hs17.entAt 1 rfl viewA_at)) (hz := h19) (ho := h20) B _) ?_
  rintro _ _ w21 ⟨rfl, rfl⟩ hs22
  have hs23 : St B w [] w21 [blk b14 (.cells [(.pointer (some ⟨b7, 0, none⟩)), (.int .i64 0), (.int .i64 8)].toArray 151 (0, 0)), viewA (ptr b7) ([5]) ([]), kU64.row (some ⟨b5, 0, none⟩) 1 ([5])] := hs22
  refine ops_run 5 (by kernel_rfl) ?_
  refine ops_done (by kernel_rfl) ?_
  refine hK18 _ _ ?_
  clear hK18
  refine W.seq fun K24 hK24 => ?_
  refine W.seq fun K25 hK25 => ?_
  refine W.region ?_
  refine ops_run 6 (by kernel_rfl) ?_
  refine ops_done (by kernel_rfl) ?_
  refine hK25 _ _ ?_
  clear hK25
  refine W.cond_false false (by kernel_rfl) rfl ?_
  refine W.skip ?_
  refine hK24 _ _ ?_
  clear hK24
  refine W.seq fun K26 hK26 => ?_
  refine W.region ?_
  refine ops_run 1 (by kernel_rfl) ?_
  obtain ⟨r27, h28, hm⟩ := bind_some hm
  refine ops_call (pre := []) hs23 (by kernel_rfl) (mclear_walk (hmb := (hs23.heapAt 0 rfl)) (hv := (hs23.entAt 1 rfl viewA_at)) (hT := (hs23.oldCells hT)) (hm := h28) B _) ?_
  rintro _ _ w29 ⟨rfl, rfl⟩ hs30
  have hs31 : St B w [] w29 [blk b14 (.cells [(.pointer (some ⟨b7, 0, none⟩)), (.int .i64 0), (.int .i64 8)].toArray 151 (0, 0)), viewA (ptr b7) ([5]) ([]), kU64.row (some ⟨b5, 0, none⟩) 1 ([5])] := hs30
  refine ops_run 5 (by kernel_rfl) ?_
  refine ops_done (by kernel_rfl) ?_
  refine hK26 _ _ ?_
  clear hK26
  refine W.seq fun K32 hK32 => ?_
  refine W.region ?_
  refine ops_run 1 (by kernel_rfl) ?_
  obtain ⟨r33, h34, hm⟩ := bind_some hm
  refine ops_call (pre := []) hs31 (by kernel_rfl) (mcount_walk (hmb := (hs31.heapAt 0 rfl)) (hv := (hs31.entAt 1 rfl viewA_at)) (hm := h34) B _) ?_
  rintro _ _ w35 ⟨rfl, rfl⟩ hs36
  have hs37 : St B w [] w35 [blk b14 (.cells [(.pointer (some ⟨b7, 0, none⟩)), (.int .i64 0), (.int .i64 8)].toArray 151 (0, 0)), viewA (ptr b7) ([5]) ([]), kU64.row (some ⟨b5, 0, none⟩) 1 ([5])] := hs36
  refine ops_run 1 (by kernel_rfl) ?_
  refine ops_done (by kernel_rfl) ?_
  refine hK32 _ _ ?_
  clear hK32
  refine W.seq fun K38 hK38 => ?_
  refine W.region ?_
  refine ops_run 1 (by kernel_rfl) ?_
  obtain ⟨r39, h40, hm⟩ := bind_some hm
  have hs41 : St B w [] w35 [viewA (ptr b7) ([5]) ([]), blk b14 (.cells [(.pointer (some ⟨b7, 0, none⟩)), (.int .i64 0), (.int .i64 8)].toArray 151 (0, 0)), kU64.row (some ⟨b5, 0, none⟩) 1 ([5])] := hs37.front 1 (by simp)
  have hs42 : St B w [] w35 [blk b14 (.cells [(.pointer (some ⟨b7, 0, none⟩)), (.int .i64 0), (.int .i64 8)].toArray 151 (0, 0)), viewA (ptr b7) ([5]) ([]), kU64.row (some ⟨b5, 0, none⟩) 1 ([5])] := hs41.front 1 (by simp)
  refine ops_call (pre := [blk b14 (.cells [(.pointer (some ⟨b7, 0, none⟩)), (.int .i64 0), (.int .i64 8)].toArray 151 (0, 0)), viewA (ptr b7) ([5]) ([])]) hs42 (by kernel_rfl) (mset_walk (hm := h40) B _) ?_
  rintro _ _ w43 ⟨rfl, rfl⟩ hs44
  have hs45 : St B w [] w43 [blk b14 (.cells [(.pointer (some ⟨b7, 0, none⟩)), (.int .i64 0), (.int .i64 8)].toArray 151 (0, 0)), viewA (ptr b7) ([5]) r39.2, kU64.row (some ⟨b5, 0, none⟩) 1 ([5])] := hs44
  refine ops_run 1 (by kernel_rfl) ?_
  refine ops_done (by kernel_rfl) ?_
  refine hK38 _ _ ?_
  clear hK38
  refine W.seq fun K46 hK46 => ?_
  refine W.region ?_
  refine ops_run 11 (by kernel_rfl) ?_
  rcases Bool.eq_false_or_eq_true (decide (r27.1 = 1)) with h47 | h47
  ·
    have h47p : r27.1 = 1 := of_decide_eq_true h47
    replace hm := ite_yes hm h47p
    refine ops_set 47 (v := .bool true) (eq_bool_of (by kernel_rfl) h47) ?_
    refine ops_set 45 (v := .bool true) (eq_bool_of (by kernel_rfl) h47) ?_
    refine ops_set 46 (v := .bool true) (eq_bool_of (by kernel_rfl) h47) ?_
    refine ops_run 3 (by kernel_rfl) ?_
    rcases Bool.eq_false_or_eq_true r27.2 with h48 | h48
    ·
      have h48p : r27.2 = true := h48
      replace hm := ite_yes hm h48p
      refine ops_set 50 (v := .bool true) (eq_bool_of (by kernel_rfl) h48) ?_
      refine ops_set 32 (v := .bool true) (eq_bool_of (by kernel_rfl) h48) ?_
      refine ops_set 7 (v := .bool true) (eq_bool_of (by kernel_rfl) h48) ?_
      refine ops_set 48 (v := .bool true) (eq_bool_of (by kernel_rfl) h48) ?_
      refine ops_set 49 (v := .bool true) (eq_bool_of (by kernel_rfl) h48) ?_
      refine ops_run 4 (by kernel_rfl) ?_
      rcases Bool.eq_false_or_eq_true (decide (r33 = 2)) with h49 | h49
      ·
        have h49p : r33 = 2 := of_decide_eq_true h49
        replace hm := ite_yes hm h49p
        refine ops_set 54 (v := .bool true) (eq_bool_of (by kernel_rfl) h49) ?_
        refine ops_set 52 (v := .bool true) (eq_bool_of (by kernel_rfl) h49) ?_
        refine ops_set 53 (v := .bool true) (eq_bool_of (by kernel_rfl) h49) ?_
        refine ops_run 4 (by kernel_rfl) ?_
        rcases Bool.eq_false_or_eq_true (decide (r39.1 = 0)) with h50 | h50
        ·
          have h50p : r39.1 = 0 := of_decide_eq_true h50
          replace hm := ite_yes hm h50p
          refine ops_set 58 (v := .bool true) (eq_bool_of (by kernel_rfl) h50) ?_
          refine ops_set 56 (v := .bool true) (eq_bool_of (by kernel_rfl) h50) ?_
          refine ops_set 57 (v := .bool true) (eq_bool_of (by kernel_rfl) h50) ?_
          refine ops_run 1 (by kernel_rfl) ?_
          refine ops_call (pre := []) hs45 (by kernel_rfl) (get_spec (at_ := 0) (hv := (hs45.entAt 1 rfl viewA_at)) B _) ?_
          rintro _ _ w51 ⟨rfl, rfl⟩ hs52
          have hs53 : St B w [] w51 [blk b14 (.cells [(.pointer (some ⟨b7, 0, none⟩)), (.int .i64 0), (.int .i64 8)].toArray 151 (0, 0)), viewA (ptr b7) ([5]) r39.2, kU64.row (some ⟨b5, 0, none⟩) 1 ([5])] := hs52
          refine ops_run 3 (by kernel_rfl) ?_
          refine ops_done (by kernel_rfl) ?_
          refine hK46 _ _ ?_
          clear hK46
          refine W.ret ?_
          obtain rfl := some_inj hm
          have hs54 : St B w [] w51 [] := St.take (H := []) hs53
          refine ret_of (.bool (decide ((vget ([5]) r39.2 0) = 7))) (by kernel_rfl) ⟨_, ⟨rfl, rfl⟩, hs54⟩
        ·
          have h50p : ¬ (r39.1 = 0) := of_decide_eq_false h50
          replace hm := ite_no hm h50p
          refine ops_set 58 (v := .bool false) (eq_bool_of (by kernel_rfl) h50) ?_
          refine ops_set 56 (v := .bool false) (eq_bool_of (by kernel_rfl) h50) ?_
          refine ops_set 57 (v := .bool false) (eq_bool_of (by kernel_rfl) h50) ?_
          refine ops_run 5 (by kernel_rfl) ?_
          refine ops_done (by kernel_rfl) ?_
          refine hK46 _ _ ?_
          clear hK46
          refine W.ret ?_
          obtain rfl := some_inj hm
          have hs55 : St B w [] w43 [] := St.take (H := []) hs45
          refine ret_of (.bool false) (by kernel_rfl) ⟨_, ⟨rfl, rfl⟩, hs55⟩
      ·
        have h49p : ¬ (r33 = 2) := of_decide_eq_false h49
        replace hm := ite_no hm h49p
        refine ops_set 54 (v := .bool false) (eq_bool_of (by kernel_rfl) h49) ?_
        refine ops_set 52 (v := .bool false) (eq_bool_of (by kernel_rfl) h49) ?_
        refine ops_set 53 (v := .bool false) (eq_bool_of (by kernel_rfl) h49) ?_
        refine ops_run 9 (by kernel_rfl) ?_
        refine ops_done (by kernel_rfl) ?_
        refine hK46 _ _ ?_
        clear hK46
        refine W.ret ?_
        obtain rfl := some_inj hm
        have hs56 : St B w [] w43 [] := St.take (H := []) hs45
        refine ret_of (.bool false) (by kernel_rfl) ⟨_, ⟨rfl, rfl⟩, hs56⟩
    ·
      have h48p : ¬ (r27.2 = true) := ne_true_of_eq_false h48
      replace hm := ite_no hm h48p
      refine ops_set 50 (v := .bool false) (eq_bool_of (by kernel_rfl) h48) ?_
      refine ops_set 32 (v := .bool false) (eq_bool_of (by kernel_rfl) h48) ?_
      refine ops_set 7 (v := .bool false) (eq_bool_of (by kernel_rfl) h48) ?_
      refine ops_set 48 (v := .bool false) (eq_bool_of (by kernel_rfl) h48) ?_
      refine ops_set 49 (v := .bool false) (eq_bool_of (by kernel_rfl) h48) ?_
      refine ops_run 13 (by kernel_rfl) ?_
      refine ops_done (by kernel_rfl) ?_
      refine hK46 _ _ ?_
      clear hK46
      refine W.ret ?_
      obtain rfl := some_inj hm
      have hs57 : St B w [] w43 [] := St.take (H := []) hs45
      refine ret_of (.bool false) (by kernel_rfl) ⟨_, ⟨rfl, rfl⟩, hs57⟩
  ·
    have h47p : ¬ (r27.1 = 1) := of_decide_eq_false h47
    replace hm := ite_no hm h47p
    refine ops_set 47 (v := .bool false) (eq_bool_of (by kernel_rfl) h47) ?_
    refine ops_set 45 (v := .bool false) (eq_bool_of (by kernel_rfl) h47) ?_
    refine ops_set 46 (v := .bool false) (eq_bool_of (by kernel_rfl) h47) ?_
    refine ops_run 16 (by kernel_rfl) ?_
    refine ops_done (by kernel_rfl) ?_
    refine hK46 _ _ ?_
    clear hK46
    refine W.ret ?_
    obtain rfl := some_inj hm
    have hs58 : St B w [] w43 [] := St.take (H := []) hs45
    refine ret_of (.bool false) (by kernel_rfl) ⟨_, ⟨rfl, rfl⟩, hs58⟩

end Go.Proofs.YthimamnblklkbaaDoor
