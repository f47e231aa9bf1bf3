/- What the code computes, by a program. -/
import Derived.Test.YthimamnblklkbaaDoorGD
import Derived.Test.YthimamnblklkbaaDoorGC
namespace Go.Proofs.YthimamnblklkbaaDoor
open Go Go.RowKit
set_option linter.unusedSimpArgs false
set_option linter.unusedVariables false

def bitmaptwo_J1 (short : Int) (l47 : List (Int × Int)) : Option (Bool) :=
  (mclear_M (List.replicate 4 0) l47 2 128).bind fun r51 =>
(mclear_M (List.replicate 4 0) l47 0 (1 + short.tmod 128)).bind fun r57 =>
(mclear_M (List.replicate 4 0) l47 0 128).bind fun r63 =>
if r51.1 = 0 then (if r51.2 = true then (if r63.2 = true then (if ((r57.2 = true) ↔ (r63.1 < (1 + short.tmod 128))) then (if r57.2 = true then (if r57.1 = r63.1 then (if (vget (List.replicate 4 0) l47 2) = 0 then (if (vget (List.replicate 4 0) l47 3) = 0 then ((works06_M).bind fun r83 =>
some r83) else (some false)) else (some false)) else (some false)) else (if (vget (List.replicate 4 0) l47 2) = 0 then (if (vget (List.replicate 4 0) l47 3) = 0 then ((works06_M).bind fun r100 =>
some r100) else (some false)) else (some false))) else (some false)) else (if ((r57.2 = true) ↔ False) then (if r57.2 = true then (if r57.1 = r63.1 then (if (vget (List.replicate 4 0) l47 2) = 0 then (if (vget (List.replicate 4 0) l47 3) = 0 then ((works06_M).bind fun r120 =>
some r120) else (some false)) else (some false)) else (some false)) else (if (vget (List.replicate 4 0) l47 2) = 0 then (if (vget (List.replicate 4 0) l47 3) = 0 then ((works06_M).bind fun r137 =>
some r137) else (some false)) else (some false))) else (some false))) else (some false)) else (some false)

def bitmaptwo_B0 (ls : List Int) (short : Int) (k151 : ((List (Int × Int)) × Int) → Option (Bool)) (l149 : List (Int × Int)) (p150 : Int) : Option (Bool) :=
  if p150 < (ls.length : Int) then (need (0 ≤ p150 ∧ p150 < (ls.length : Int)) <|
need (-9223372036854775808 ≤ (ls.getD p150.toNat 0) ∧ (ls.getD p150.toNat 0) ≤ 9223372036854775807) <|
(some ((ls.getD p150.toNat 0).tmod 128)).bind fun r168 =>
need (0 ≤ p150 ∧ p150 < (ls.length : Int)) <|
(mset_M (List.replicate 4 0) l149 0 128 r168 (decide ((ls.getD p150.toNat 0).tmod 3 > 0))).bind fun r173 =>
if r173.1 = 0 then ((mget_M (List.replicate 4 0) r173.2 0 (1 + short.tmod 128) r168).bind fun r180 =>
if r168 < (1 + short.tmod 128) then ((mget_M (List.replicate 4 0) r173.2 0 128 r168).bind fun r186 =>
if ((r180 = true) ↔ (r186 = true)) then ((mcount_M (List.replicate 4 0) r173.2 2 128).bind fun r192 =>
if r192 = 0 then (need (-9223372036854775808 ≤ (p150 + 1) ∧ (p150 + 1) ≤ 9223372036854775807) <|
k151 (r173.2, (p150 + 1))) else (some false)) else (some false)) else (if ((r180 = true) ↔ False) then ((mcount_M (List.replicate 4 0) r173.2 2 128).bind fun r209 =>
if r209 = 0 then (need (-9223372036854775808 ≤ (p150 + 1) ∧ (p150 + 1) ≤ 9223372036854775807) <|
k151 (r173.2, (p150 + 1))) else (some false)) else (some false))) else (some false)) else (bitmaptwo_J1 short l149)

def bitmaptwo_M (ls : List Int) (short : Int) : Option (Bool) :=
  if (ls.length : Int) > 100 then ((works06_M).bind fun r6 =>
some r6) else (need ((List.replicate 4 0).length ≤ 17592186044415) <|
need (((List.replicate 4 0).length : Int) ≤ 1000000000000) <|
need ((0 ≤ (0 : Int) ∧ (0 : Int) < ((List.replicate 4 0).length : Int)) ∧ (1 ≤ (128 : Int) ∧ (128 : Int) ≤ 1000000000000) ∧ ((128 : Int) - 1) / 64 < ((List.replicate 4 0).length : Int) - (0 : Int)) <|
need (((List.replicate 4 0).length : Int) ≤ 1000000000000) <|
need ((0 ≤ (2 : Int) ∧ (2 : Int) < ((List.replicate 4 0).length : Int)) ∧ (1 ≤ (128 : Int) ∧ (128 : Int) ≤ 1000000000000) ∧ ((128 : Int) - 1) / 64 < ((List.replicate 4 0).length : Int) - (2 : Int)) <|
need (-9223372036854775808 ≤ short ∧ short ≤ 9223372036854775807) <|
need (-9223372036854775808 ≤ (1 + short.tmod 128) ∧ (1 + short.tmod 128) ≤ 9223372036854775807) <|
need (((List.replicate 4 0).length : Int) ≤ 1000000000000) <|
need ((0 ≤ (0 : Int) ∧ (0 : Int) < ((List.replicate 4 0).length : Int)) ∧ (1 ≤ ((1 + short.tmod 128) : Int) ∧ ((1 + short.tmod 128) : Int) ≤ 1000000000000) ∧ (((1 + short.tmod 128) : Int) - 1) / 64 < ((List.replicate 4 0).length : Int) - (0 : Int)) <|
iter (fun k_ s_ => bitmaptwo_B0 ls short k_ s_.1 s_.2) FUEL ([], 0))

set_option maxRecDepth 20000 in
set_option maxHeartbeats 4000000 in
set_option linter.unusedVariables false in
theorem bitmaptwo_walk {ls : List Int} {short : Int} {la : Option Addr} {lc : Nat}  (B : Nat) (w : World) (hB : w.heap.size = B) (hT : CellsAt (some ⟨0, 0, none⟩) tab8 w) (hl : CellsAt la (kU16.cells ls) w) (hm : bitmaptwo_M ls short = some true) : Spec Tryd.prog 4 #[(.slice la ls.length lc), (.int .u8 short)] B w [] (fun v H' => v = .bool true ∧ H' = []) := by
  refine spec_Q Tryd.func4 rfl fun hs => ?_
  unfold bitmaptwo_M at hm
  refine W.seq fun K1 hK1 => ?_
  refine W.region ?_
  refine ops_run 1 (by kernel_rfl) ?_
  refine ops_done (by kernel_rfl) ?_
  refine hK1 _ _ ?_
  clear hK1
  refine W.seq fun K2 hK2 => ?_
  refine W.seq fun K3 hK3 => ?_
  refine W.region ?_
  refine ops_run 3 (by kernel_rfl) ?_
  refine ops_done (by kernel_rfl) ?_
  refine hK3 _ _ ?_
  clear hK3
  refine W.cond (decide ((ls.length : Int) > 100)) (by kernel_rfl) (fun h4 => ?_) (fun h4 => ?_)
  ·
    have h4p : (ls.length : Int) > 100 := of_decide_eq_true h4
    replace hm := ite_yes hm h4p
    refine W.seq fun K5 hK5 => ?_
    refine W.region ?_
    obtain ⟨r6, h7, hm⟩ := bind_some hm
    refine ops_call (pre := []) hs (by kernel_rfl) (works06_walk (hT := (hs.oldCells hT)) (hm := h7) B _) ?_
    rintro _ _ w8 ⟨rfl, rfl⟩ hs9
    have hs10 : St B w [] w8 [] := hs9
    refine ops_run 1 (by kernel_rfl) ?_
    refine ops_done (by kernel_rfl) ?_
    refine hK5 _ _ ?_
    clear hK5
    refine W.ret (ret_seq ?_)
    refine ret_of (.bool r6) (by kernel_rfl) ⟨_, ⟨congrArg Value.bool (some_inj hm), rfl⟩, hs10⟩
  ·
    have h4p : ¬ ((ls.length : Int) > 100) := of_decide_eq_false h4
    replace hm := ite_no hm h4p
    refine W.skip ?_
    refine hK2 _ _ ?_
    clear hK2
    refine W.seq fun K11 hK11 => ?_
    refine W.region ?_
    refine ops_new (fun b => .slice (some ⟨b, 0, none⟩) 4 4) (.cells (kU64.cells (List.replicate 4 0)).toArray 38 (0, 0)) hs (by kernel_rfl) (fun b14 w12 hs13 => ?_)
    have hs15 : St B w [] w12 [kU64.row (some ⟨b14, 0, none⟩) 4 (List.replicate 4 0)] := St.kblk kU64 (List.replicate 4 0) hs13 rfl rfl (by decide)
    obtain ⟨h17, hm⟩ := need_some hm
    refine ops_call (pre := []) hs15 (by kernel_rfl) (new_spec (hc := (St.kcells kU64 hs15 0 rfl)) (hn := (St.capnil kU64 hs15 0 rfl)) (hsz := h17) B _) ?_
    rintro _ _ w18 ⟨b16, rfl, rfl⟩ hs19
    have hs20 : St B w [] w18 [viewA (ptr b16) (List.replicate 4 0) ([]), kU64.row (some ⟨b14, 0, none⟩) 4 (List.replicate 4 0)] := hs19
    refine ops_run 1 (by kernel_rfl) ?_
    refine ops_done (by kernel_rfl) ?_
    refine hK11 _ _ ?_
    clear hK11
    refine W.seq fun K21 hK21 => ?_
    refine W.region ?_
    refine ops_run 1 (by kernel_rfl) ?_
    obtain ⟨h22, hm⟩ := need_some hm
    obtain ⟨h23, hm⟩ := need_some hm
    refine ops_call (pre := []) hs20 (by kernel_rfl) (of_ok (hv := (hs20.entAt 0 rfl viewA_at)) (hz := h22) (ho := h23) B _) ?_
    rintro _ _ w25 ⟨b24, rfl, rfl⟩ hs26
    have hs27 : St B w [] w25 [blk b24 (.cells [(.pointer (some ⟨b16, 0, none⟩)), (.int .i64 0), (.int .i64 128)].toArray 151 (0, 0)), viewA (ptr b16) (List.replicate 4 0) ([]), kU64.row (some ⟨b14, 0, none⟩) 4 (List.replicate 4 0)] := hs26
    refine ops_run 5 (by kernel_rfl) ?_
    refine ops_done (by kernel_rfl) ?_
    refine hK21 _ _ ?_
    clear hK21
    refine W.seq fun K28 hK28 => ?_
    refine W.region ?_
    refine ops_run 1 (by kernel_rfl) ?_
    obtain ⟨h29, hm⟩ := need_some hm
    obtain ⟨h30, hm⟩ := need_some hm
    refine ops_call (pre := []) hs27 (by kernel_rfl) (of_ok (hv := (hs27.entAt 1 rfl viewA_at)) (hz := h29) (ho := h30) B _) ?_
    rintro _ _ w32 ⟨b31, rfl, rfl⟩ hs33
    have hs34 : St B w [] w32 [blk b31 (.cells [(.pointer (some ⟨b16, 0, none⟩)), (.int .i64 2), (.int .i64 128)].toArray 151 (0, 0)), blk b24 (.cells [(.pointer (some ⟨b16, 0, none⟩)), (.int .i64 0), (.int .i64 128)].toArray 151 (0, 0)), viewA (ptr b16) (List.replicate 4 0) ([]), kU64.row (some ⟨b14, 0, none⟩) 4 (List.replicate 4 0)] := hs33
    refine ops_run 5 (by kernel_rfl) ?_
    refine ops_done (by kernel_rfl) ?_
    refine hK28 _ _ ?_
    clear hK28
    refine W.seq fun K35 hK35 => ?_
    refine W.region ?_
    refine ops_run 1 (by kernel_rfl) ?_
    obtain ⟨h36, hm⟩ := need_some hm
    refine ops_val (v := .int .i64 (IntKind.i64.wrap short)) (v' := .int .i64 short) (by kernel_rfl) (congrArg (Value.int .i64) (wrap_i64 h36.1 h36.2)) ?_
    refine ops_run 1 (by kernel_rfl) ?_
    obtain ⟨h37, hm⟩ := need_some hm
    refine ops_val (v := .int .i64 (IntKind.i64.wrap (1 + short.tmod 128))) (v' := .int .i64 (1 + short.tmod 128)) (by kernel_rfl) (congrArg (Value.int .i64) (wrap_i64 h37.1 h37.2)) ?_
    refine ops_run 1 (by kernel_rfl) ?_
    refine ops_done (by kernel_rfl) ?_
    refine hK35 _ _ ?_
    clear hK35
    refine W.seq fun K38 hK38 => ?_
    refine W.region ?_
    refine ops_run 2 (by kernel_rfl) ?_
    obtain ⟨h39, hm⟩ := need_some hm
    obtain ⟨h40, hm⟩ := need_some hm
    refine ops_call (pre := []) hs34 (by kernel_rfl) (of_ok (hv := (hs34.entAt 2 rfl viewA_at)) (hz := h39) (ho := h40) B _) ?_
    rintro _ _ w42 ⟨b41, rfl, rfl⟩ hs43
    have hs44 : St B w [] w42 [blk b41 (.cells [(.pointer (some ⟨b16, 0, none⟩)), (.int .i64 0), (.int .i64 (1 + short.tmod 128))].toArray 151 (0, 0)), blk b31 (.cells [(.pointer (some ⟨b16, 0, none⟩)), (.int .i64 2), (.int .i64 128)].toArray 151 (0, 0)), blk b24 (.cells [(.pointer (some ⟨b16, 0, none⟩)), (.int .i64 0), (.int .i64 128)].toArray 151 (0, 0)), viewA (ptr b16) (List.replicate 4 0) ([]), kU64.row (some ⟨b14, 0, none⟩) 4 (List.replicate 4 0)] := hs43
    refine ops_run 5 (by kernel_rfl) ?_
    refine ops_done (by kernel_rfl) ?_
    refine hK38 _ _ ?_
    clear hK38
    refine W.seq fun K45 hK45 => ?_
    refine W.seq fun K46 hK46 => ?_
    refine W.region ?_
    refine ops_run 26 (by kernel_rfl) ?_
    refine ops_done (by kernel_rfl) ?_
    refine hK46 _ _ ?_
    clear hK46
    refine W.cond_false false (by kernel_rfl) rfl ?_
    refine W.skip ?_
    refine hK45 _ _ ?_
    clear hK45
    refine W.seq_join (fun s_ w_ => ∃ (l47 : List (Int × Int)), (∃ us, s_ = slots 166 [(5, (.pointer (some ⟨b16, 0, none⟩))), (6, (.pointer (some ⟨b24, 0, none⟩))), (8, (.pointer (some ⟨b31, 0, none⟩))), (10, (.int .i64 (1 + short.tmod 128))), (11, (.pointer (some ⟨b41, 0, none⟩)))] us) ∧ St B w [] w_ [viewA (ptr b16) (List.replicate 4 0) l47, blk b41 (.cells [(.pointer (some ⟨b16, 0, none⟩)), (.int .i64 0), (.int .i64 (1 + short.tmod 128))].toArray 151 (0, 0)), blk b31 (.cells [(.pointer (some ⟨b16, 0, none⟩)), (.int .i64 2), (.int .i64 128)].toArray 151 (0, 0)), blk b24 (.cells [(.pointer (some ⟨b16, 0, none⟩)), (.int .i64 0), (.int .i64 128)].toArray 151 (0, 0)), kU64.row (some ⟨b14, 0, none⟩) 4 (List.replicate 4 0)] ∧ bitmaptwo_J1 short l47 = some true) ?_ ?_
    ·
      rintro _ w48 ⟨l47, ⟨us, rfl⟩, hs49, hm⟩
      unfold bitmaptwo_J1 at hm
      refine W.seq fun K50 hK50 => ?_
      refine W.region ?_
      refine ops_run 1 (by kernel_rfl) ?_
      obtain ⟨r51, h52, hm⟩ := bind_some hm
      refine ops_call (pre := []) hs49 (by kernel_rfl) (mclear_walk (hmb := (hs49.heapAt 2 rfl)) (hv := (hs49.entAt 0 rfl viewA_at)) (hT := (hs49.oldCells hT)) (hm := h52) B _) ?_
      rintro _ _ w53 ⟨rfl, rfl⟩ hs54
      have hs55 : St B w [] w53 [viewA (ptr b16) (List.replicate 4 0) l47, blk b41 (.cells [(.pointer (some ⟨b16, 0, none⟩)), (.int .i64 0), (.int .i64 (1 + short.tmod 128))].toArray 151 (0, 0)), blk b31 (.cells [(.pointer (some ⟨b16, 0, none⟩)), (.int .i64 2), (.int .i64 128)].toArray 151 (0, 0)), blk b24 (.cells [(.pointer (some ⟨b16, 0, none⟩)), (.int .i64 0), (.int .i64 128)].toArray 151 (0, 0)), kU64.row (some ⟨b14, 0, none⟩) 4 (List.replicate 4 0)] := hs54
      refine ops_run 5 (by kernel_rfl) ?_
      refine ops_done (by kernel_rfl) ?_
      refine hK50 _ _ ?_
      clear hK50
      refine W.seq fun K56 hK56 => ?_
      refine W.region ?_
      refine ops_run 1 (by kernel_rfl) ?_
      obtain ⟨r57, h58, hm⟩ := bind_some hm
      refine ops_call (pre := []) hs55 (by kernel_rfl) (mclear_walk (hmb := (hs55.heapAt 1 rfl)) (hv := (hs55.entAt 0 rfl viewA_at)) (hT := (hs55.oldCells hT)) (hm := h58) B _) ?_
      rintro _ _ w59 ⟨rfl, rfl⟩ hs60
      have hs61 : St B w [] w59 [viewA (ptr b16) (List.replicate 4 0) l47, blk b41 (.cells [(.pointer (some ⟨b16, 0, none⟩)), (.int .i64 0), (.int .i64 (1 + short.tmod 128))].toArray 151 (0, 0)), blk b31 (.cells [(.pointer (some ⟨b16, 0, none⟩)), (.int .i64 2), (.int .i64 128)].toArray 151 (0, 0)), blk b24 (.cells [(.pointer (some ⟨b16, 0, none⟩)), (.int .i64 0), (.int .i64 128)].toArray 151 (0, 0)), kU64.row (some ⟨b14, 0, none⟩) 4 (List.replicate 4 0)] := hs60
      refine ops_run 5 (by kernel_rfl) ?_
      refine ops_done (by kernel_rfl) ?_
      refine hK56 _ _ ?_
      clear hK56
      refine W.seq fun K62 hK62 => ?_
      refine W.region ?_
      refine ops_run 1 (by kernel_rfl) ?_
      obtain ⟨r63, h64, hm⟩ := bind_some hm
      refine ops_call (pre := []) hs61 (by kernel_rfl) (mclear_walk (hmb := (hs61.heapAt 3 rfl)) (hv := (hs61.entAt 0 rfl viewA_at)) (hT := (hs61.oldCells hT)) (hm := h64) B _) ?_
      rintro _ _ w65 ⟨rfl, rfl⟩ hs66
      have hs67 : St B w [] w65 [viewA (ptr b16) (List.replicate 4 0) l47, blk b41 (.cells [(.pointer (some ⟨b16, 0, none⟩)), (.int .i64 0), (.int .i64 (1 + short.tmod 128))].toArray 151 (0, 0)), blk b31 (.cells [(.pointer (some ⟨b16, 0, none⟩)), (.int .i64 2), (.int .i64 128)].toArray 151 (0, 0)), blk b24 (.cells [(.pointer (some ⟨b16, 0, none⟩)), (.int .i64 0), (.int .i64 128)].toArray 151 (0, 0)), kU64.row (some ⟨b14, 0, none⟩) 4 (List.replicate 4 0)] := hs66
      refine ops_run 5 (by kernel_rfl) ?_
      refine ops_done (by kernel_rfl) ?_
      refine hK62 _ _ ?_
      clear hK62
      refine W.seq fun K68 hK68 => ?_
      refine W.region ?_
      refine ops_run 3 (by kernel_rfl) ?_
      rcases Bool.eq_false_or_eq_true (decide (r51.1 = 0)) with h69 | h69
      ·
        have h69p : r51.1 = 0 := of_decide_eq_true h69
        replace hm := ite_yes hm h69p
        refine ops_set 131 (v := .bool true) (eq_bool_of (by kernel_rfl) h69) ?_
        refine ops_set 130 (v := .bool true) (eq_bool_of (by kernel_rfl) h69) ?_
        refine ops_run 3 (by kernel_rfl) ?_
        rcases Bool.eq_false_or_eq_true r51.2 with h70 | h70
        ·
          have h70p : r51.2 = true := h70
          replace hm := ite_yes hm h70p
          refine ops_set 134 (v := .bool true) (eq_bool_of (by kernel_rfl) h70) ?_
          refine ops_set 118 (v := .bool true) (eq_bool_of (by kernel_rfl) h70) ?_
          refine ops_set 16 (v := .bool true) (eq_bool_of (by kernel_rfl) h70) ?_
          refine ops_set 132 (v := .bool true) (eq_bool_of (by kernel_rfl) h70) ?_
          refine ops_set 133 (v := .bool true) (eq_bool_of (by kernel_rfl) h70) ?_
          refine ops_run 3 (by kernel_rfl) ?_
          rcases Bool.eq_false_or_eq_true r63.2 with h71 | h71
          ·
            have h71p : r63.2 = true := h71
            replace hm := ite_yes hm h71p
            refine ops_set 137 (v := .bool true) (eq_bool_of (by kernel_rfl) h71) ?_
            refine ops_set 128 (v := .bool true) (eq_bool_of (by kernel_rfl) h71) ?_
            refine ops_set 20 (v := .bool true) (eq_bool_of (by kernel_rfl) h71) ?_
            refine ops_set 136 (v := .bool true) (eq_bool_of (by kernel_rfl) h71) ?_
            refine ops_run 7 (by kernel_rfl) ?_
            rcases Bool.eq_false_or_eq_true (r57.2 == (decide (r63.1 < (1 + short.tmod 128)))) with h72 | h72
            ·
              have h72p : ((r57.2 = true) ↔ (r63.1 < (1 + short.tmod 128))) := beq_yes Iff.rfl decide_eq_true_iff h72
              replace hm := ite_yes hm h72p
              refine ops_set 144 (v := .bool true) (eq_bool_of (by kernel_rfl) h72) ?_
              refine ops_set 142 (v := .bool true) (eq_bool_of (by kernel_rfl) h72) ?_
              refine ops_set 143 (v := .bool true) (eq_bool_of (by kernel_rfl) h72) ?_
              refine ops_run 3 (by kernel_rfl) ?_
              rcases Bool.eq_false_or_eq_true (!r57.2) with h73 | h73
              rotate_left
              ·
                have h73p : r57.2 = true := (bnot_false h73)
                replace hm := ite_yes hm h73p
                refine ops_set 147 (v := .bool false) (eq_bool_of (by kernel_rfl) h73) ?_
                refine ops_set 146 (v := .bool false) (eq_bool_of (by kernel_rfl) h73) ?_
                refine ops_run 6 (by kernel_rfl) ?_
                rcases Bool.eq_false_or_eq_true (decide (r57.1 = r63.1)) with h74 | h74
                ·
                  have h74p : r57.1 = r63.1 := of_decide_eq_true h74
                  replace hm := ite_yes hm h74p
                  refine ops_set 153 (v := .bool true) (eq_bool_of (by kernel_rfl) h74) ?_
                  refine ops_set 150 (v := .bool true) (eq_bool_of (by kernel_rfl) h74) ?_
                  refine ops_set 151 (v := .bool true) (eq_bool_of (by kernel_rfl) h74) ?_
                  refine ops_set 152 (v := .bool true) (eq_bool_of (by kernel_rfl) h74) ?_
                  refine ops_run 1 (by kernel_rfl) ?_
                  refine ops_call (pre := []) hs67 (by kernel_rfl) (get_spec (at_ := 2) (hv := (hs67.entAt 0 rfl viewA_at)) B _) ?_
                  rintro _ _ w75 ⟨rfl, rfl⟩ hs76
                  have hs77 : St B w [] w75 [viewA (ptr b16) (List.replicate 4 0) l47, blk b41 (.cells [(.pointer (some ⟨b16, 0, none⟩)), (.int .i64 0), (.int .i64 (1 + short.tmod 128))].toArray 151 (0, 0)), blk b31 (.cells [(.pointer (some ⟨b16, 0, none⟩)), (.int .i64 2), (.int .i64 128)].toArray 151 (0, 0)), blk b24 (.cells [(.pointer (some ⟨b16, 0, none⟩)), (.int .i64 0), (.int .i64 128)].toArray 151 (0, 0)), kU64.row (some ⟨b14, 0, none⟩) 4 (List.replicate 4 0)] := hs76
                  refine ops_run 3 (by kernel_rfl) ?_
                  rcases Bool.eq_false_or_eq_true (decide ((vget (List.replicate 4 0) l47 2) = 0)) with h78 | h78
                  ·
                    have h78p : (vget (List.replicate 4 0) l47 2) = 0 := of_decide_eq_true h78
                    replace hm := ite_yes hm h78p
                    refine ops_set 158 (v := .bool true) (eq_bool_of (by kernel_rfl) h78) ?_
                    refine ops_set 156 (v := .bool true) (eq_bool_of (by kernel_rfl) h78) ?_
                    refine ops_set 157 (v := .bool true) (eq_bool_of (by kernel_rfl) h78) ?_
                    refine ops_run 1 (by kernel_rfl) ?_
                    refine ops_call (pre := []) hs77 (by kernel_rfl) (get_spec (at_ := 3) (hv := (hs77.entAt 0 rfl viewA_at)) B _) ?_
                    rintro _ _ w79 ⟨rfl, rfl⟩ hs80
                    have hs81 : St B w [] w79 [viewA (ptr b16) (List.replicate 4 0) l47, blk b41 (.cells [(.pointer (some ⟨b16, 0, none⟩)), (.int .i64 0), (.int .i64 (1 + short.tmod 128))].toArray 151 (0, 0)), blk b31 (.cells [(.pointer (some ⟨b16, 0, none⟩)), (.int .i64 2), (.int .i64 128)].toArray 151 (0, 0)), blk b24 (.cells [(.pointer (some ⟨b16, 0, none⟩)), (.int .i64 0), (.int .i64 128)].toArray 151 (0, 0)), kU64.row (some ⟨b14, 0, none⟩) 4 (List.replicate 4 0)] := hs80
                    refine ops_run 3 (by kernel_rfl) ?_
                    rcases Bool.eq_false_or_eq_true (decide ((vget (List.replicate 4 0) l47 3) = 0)) with h82 | h82
                    ·
                      have h82p : (vget (List.replicate 4 0) l47 3) = 0 := of_decide_eq_true h82
                      replace hm := ite_yes hm h82p
                      refine ops_set 163 (v := .bool true) (eq_bool_of (by kernel_rfl) h82) ?_
                      refine ops_set 161 (v := .bool true) (eq_bool_of (by kernel_rfl) h82) ?_
                      refine ops_set 162 (v := .bool true) (eq_bool_of (by kernel_rfl) h82) ?_
                      obtain ⟨r83, h84, hm⟩ := bind_some hm
                      refine ops_call (pre := []) hs81 (by kernel_rfl) (works06_walk (hT := (hs81.oldCells hT)) (hm := h84) B _) ?_
                      rintro _ _ w85 ⟨rfl, rfl⟩ hs86
                      have hs87 : St B w [] w85 [viewA (ptr b16) (List.replicate 4 0) l47, blk b41 (.cells [(.pointer (some ⟨b16, 0, none⟩)), (.int .i64 0), (.int .i64 (1 + short.tmod 128))].toArray 151 (0, 0)), blk b31 (.cells [(.pointer (some ⟨b16, 0, none⟩)), (.int .i64 2), (.int .i64 128)].toArray 151 (0, 0)), blk b24 (.cells [(.pointer (some ⟨b16, 0, none⟩)), (.int .i64 0), (.int .i64 128)].toArray 151 (0, 0)), kU64.row (some ⟨b14, 0, none⟩) 4 (List.replicate 4 0)] := hs86
                      refine ops_run 2 (by kernel_rfl) ?_
                      refine ops_done (by kernel_rfl) ?_
                      refine hK68 _ _ ?_
                      clear hK68
                      refine W.ret ?_
                      have hs88 : St B w [] w85 [] := St.take (H := []) hs87
                      refine ret_of (.bool r83) (by kernel_rfl) ⟨_, ⟨congrArg Value.bool (some_inj hm), rfl⟩, hs88⟩
                    ·
                      have h82p : ¬ ((vget (List.replicate 4 0) l47 3) = 0) := of_decide_eq_false h82
                      replace hm := ite_no hm h82p
                      refine ops_set 163 (v := .bool false) (eq_bool_of (by kernel_rfl) h82) ?_
                      refine ops_set 161 (v := .bool false) (eq_bool_of (by kernel_rfl) h82) ?_
                      refine ops_set 162 (v := .bool false) (eq_bool_of (by kernel_rfl) h82) ?_
                      refine ops_run 3 (by kernel_rfl) ?_
                      refine ops_done (by kernel_rfl) ?_
                      refine hK68 _ _ ?_
                      clear hK68
                      refine W.ret ?_
                      have hs89 : St B w [] w79 [] := St.take (H := []) hs81
                      refine ret_of (.bool false) (by kernel_rfl) ⟨_, ⟨congrArg Value.bool (some_inj hm), rfl⟩, hs89⟩
                  ·
                    have h78p : ¬ ((vget (List.replicate 4 0) l47 2) = 0) := of_decide_eq_false h78
                    replace hm := ite_no hm h78p
                    refine ops_set 158 (v := .bool false) (eq_bool_of (by kernel_rfl) h78) ?_
                    refine ops_set 156 (v := .bool false) (eq_bool_of (by kernel_rfl) h78) ?_
                    refine ops_set 157 (v := .bool false) (eq_bool_of (by kernel_rfl) h78) ?_
                    refine ops_run 8 (by kernel_rfl) ?_
                    refine ops_done (by kernel_rfl) ?_
                    refine hK68 _ _ ?_
                    clear hK68
                    refine W.ret ?_
                    have hs90 : St B w [] w75 [] := St.take (H := []) hs77
                    refine ret_of (.bool false) (by kernel_rfl) ⟨_, ⟨congrArg Value.bool (some_inj hm), rfl⟩, hs90⟩
                ·
                  have h74p : ¬ (r57.1 = r63.1) := of_decide_eq_false h74
                  replace hm := ite_no hm h74p
                  refine ops_set 153 (v := .bool false) (eq_bool_of (by kernel_rfl) h74) ?_
                  refine ops_set 150 (v := .bool false) (eq_bool_of (by kernel_rfl) h74) ?_
                  refine ops_set 151 (v := .bool false) (eq_bool_of (by kernel_rfl) h74) ?_
                  refine ops_set 152 (v := .bool false) (eq_bool_of (by kernel_rfl) h74) ?_
                  refine ops_run 13 (by kernel_rfl) ?_
                  refine ops_done (by kernel_rfl) ?_
                  refine hK68 _ _ ?_
                  clear hK68
                  refine W.ret ?_
                  have hs91 : St B w [] w65 [] := St.take (H := []) hs67
                  refine ret_of (.bool false) (by kernel_rfl) ⟨_, ⟨congrArg Value.bool (some_inj hm), rfl⟩, hs91⟩
              ·
                have h73p : ¬ (r57.2 = true) := ne_true_of_eq_false (bnot_true h73)
                replace hm := ite_no hm h73p
                refine ops_set 147 (v := .bool true) (eq_bool_of (by kernel_rfl) h73) ?_
                refine ops_set 146 (v := .bool true) (eq_bool_of (by kernel_rfl) h73) ?_
                refine ops_run 7 (by kernel_rfl) ?_
                refine ops_call (pre := []) hs67 (by kernel_rfl) (get_spec (at_ := 2) (hv := (hs67.entAt 0 rfl viewA_at)) B _) ?_
                rintro _ _ w92 ⟨rfl, rfl⟩ hs93
                have hs94 : St B w [] w92 [viewA (ptr b16) (List.replicate 4 0) l47, blk b41 (.cells [(.pointer (some ⟨b16, 0, none⟩)), (.int .i64 0), (.int .i64 (1 + short.tmod 128))].toArray 151 (0, 0)), blk b31 (.cells [(.pointer (some ⟨b16, 0, none⟩)), (.int .i64 2), (.int .i64 128)].toArray 151 (0, 0)), blk b24 (.cells [(.pointer (some ⟨b16, 0, none⟩)), (.int .i64 0), (.int .i64 128)].toArray 151 (0, 0)), kU64.row (some ⟨b14, 0, none⟩) 4 (List.replicate 4 0)] := hs93
                refine ops_run 3 (by kernel_rfl) ?_
                rcases Bool.eq_false_or_eq_true (decide ((vget (List.replicate 4 0) l47 2) = 0)) with h95 | h95
                ·
                  have h95p : (vget (List.replicate 4 0) l47 2) = 0 := of_decide_eq_true h95
                  replace hm := ite_yes hm h95p
                  refine ops_set 158 (v := .bool true) (eq_bool_of (by kernel_rfl) h95) ?_
                  refine ops_set 156 (v := .bool true) (eq_bool_of (by kernel_rfl) h95) ?_
                  refine ops_set 157 (v := .bool true) (eq_bool_of (by kernel_rfl) h95) ?_
                  refine ops_run 1 (by kernel_rfl) ?_
                  refine ops_call (pre := []) hs94 (by kernel_rfl) (get_spec (at_ := 3) (hv := (hs94.entAt 0 rfl viewA_at)) B _) ?_
                  rintro _ _ w96 ⟨rfl, rfl⟩ hs97
                  have hs98 : St B w [] w96 [viewA (ptr b16) (List.replicate 4 0) l47, blk b41 (.cells [(.pointer (some ⟨b16, 0, none⟩)), (.int .i64 0), (.int .i64 (1 + short.tmod 128))].toArray 151 (0, 0)), blk b31 (.cells [(.pointer (some ⟨b16, 0, none⟩)), (.int .i64 2), (.int .i64 128)].toArray 151 (0, 0)), blk b24 (.cells [(.pointer (some ⟨b16, 0, none⟩)), (.int .i64 0), (.int .i64 128)].toArray 151 (0, 0)), kU64.row (some ⟨b14, 0, none⟩) 4 (List.replicate 4 0)] := hs97
                  refine ops_run 3 (by kernel_rfl) ?_
                  rcases Bool.eq_false_or_eq_true (decide ((vget (List.replicate 4 0) l47 3) = 0)) with h99 | h99
                  ·
                    have h99p : (vget (List.replicate 4 0) l47 3) = 0 := of_decide_eq_true h99
                    replace hm := ite_yes hm h99p
                    refine ops_set 163 (v := .bool true) (eq_bool_of (by kernel_rfl) h99) ?_
                    refine ops_set 161 (v := .bool true) (eq_bool_of (by kernel_rfl) h99) ?_
                    refine ops_set 162 (v := .bool true) (eq_bool_of (by kernel_rfl) h99) ?_
                    obtain ⟨r100, h101, hm⟩ := bind_some hm
                    refine ops_call (pre := []) hs98 (by kernel_rfl) (works06_walk (hT := (hs98.oldCells hT)) (hm := h101) B _) ?_
                    rintro _ _ w102 ⟨rfl, rfl⟩ hs103
                    have hs104 : St B w [] w102 [viewA (ptr b16) (List.replicate 4 0) l47, blk b41 (.cells [(.pointer (some ⟨b16, 0, none⟩)), (.int .i64 0), (.int .i64 (1 + short.tmod 128))].toArray 151 (0, 0)), blk b31 (.cells [(.pointer (some ⟨b16, 0, none⟩)), (.int .i64 2), (.int .i64 128)].toArray 151 (0, 0)), blk b24 (.cells [(.pointer (some ⟨b16, 0, none⟩)), (.int .i64 0), (.int .i64 128)].toArray 151 (0, 0)), kU64.row (some ⟨b14, 0, none⟩) 4 (List.replicate 4 0)] := hs103
                    refine ops_run 2 (by kernel_rfl) ?_
                    refine ops_done (by kernel_rfl) ?_
                    refine hK68 _ _ ?_
                    clear hK68
                    refine W.ret ?_
                    have hs105 : St B w [] w102 [] := St.take (H := []) hs104
                    refine ret_of (.bool r100) (by kernel_rfl) ⟨_, ⟨congrArg Value.bool (some_inj hm), rfl⟩, hs105⟩
                  ·
                    have h99p : ¬ ((vget (List.replicate 4 0) l47 3) = 0) := of_decide_eq_false h99
                    replace hm := ite_no hm h99p
                    refine ops_set 163 (v := .bool false) (eq_bool_of (by kernel_rfl) h99) ?_
                    refine ops_set 161 (v := .bool false) (eq_bool_of (by kernel_rfl) h99) ?_
                    refine ops_set 162 (v := .bool false) (eq_bool_of (by kernel_rfl) h99) ?_
                    refine ops_run 3 (by kernel_rfl) ?_
                    refine ops_done (by kernel_rfl) ?_
                    refine hK68 _ _ ?_
                    clear hK68
                    refine W.ret ?_
                    have hs106 : St B w [] w96 [] := St.take (H := []) hs98
                    refine ret_of (.bool false) (by kernel_rfl) ⟨_, ⟨congrArg Value.bool (some_inj hm), rfl⟩, hs106⟩
                ·
                  have h95p : ¬ ((vget (List.replicate 4 0) l47 2) = 0) := of_decide_eq_false h95
                  replace hm := ite_no hm h95p
                  refine ops_set 158 (v := .bool false) (eq_bool_of (by kernel_rfl) h95) ?_
                  refine ops_set 156 (v := .bool false) (eq_bool_of (by kernel_rfl) h95) ?_
                  refine ops_set 157 (v := .bool false) (eq_bool_of (by kernel_rfl) h95) ?_
                  refine ops_run 8 (by kernel_rfl) ?_
                  refine ops_done (by kernel_rfl) ?_
                  refine hK68 _ _ ?_
                  clear hK68
                  refine W.ret ?_
                  have hs107 : St B w [] w92 [] := St.take (H := []) hs94
                  refine ret_of (.bool false) (by kernel_rfl) ⟨_, ⟨congrArg Value.bool (some_inj hm), rfl⟩, hs107⟩
            ·
              have h72p : ¬ ((r57.2 = true) ↔ (r63.1 < (1 + short.tmod 128))) := beq_no Iff.rfl decide_eq_true_iff h72
              replace hm := ite_no hm h72p
              refine ops_set 144 (v := .bool false) (eq_bool_of (by kernel_rfl) h72) ?_
              refine ops_set 142 (v := .bool false) (eq_bool_of (by kernel_rfl) h72) ?_
              refine ops_set 143 (v := .bool false) (eq_bool_of (by kernel_rfl) h72) ?_
              refine ops_run 22 (by kernel_rfl) ?_
              refine ops_done (by kernel_rfl) ?_
              refine hK68 _ _ ?_
              clear hK68
              refine W.ret ?_
              have hs108 : St B w [] w65 [] := St.take (H := []) hs67
              refine ret_of (.bool false) (by kernel_rfl) ⟨_, ⟨congrArg Value.bool (some_inj hm), rfl⟩, hs108⟩
          ·
            have h71p : ¬ (r63.2 = true) := ne_true_of_eq_false h71
            replace hm := ite_no hm h71p
            refine ops_set 137 (v := .bool false) (eq_bool_of (by kernel_rfl) h71) ?_
            refine ops_set 128 (v := .bool false) (eq_bool_of (by kernel_rfl) h71) ?_
            refine ops_set 20 (v := .bool false) (eq_bool_of (by kernel_rfl) h71) ?_
            refine ops_set 136 (v := .bool false) (eq_bool_of (by kernel_rfl) h71) ?_
            refine ops_run 7 (by kernel_rfl) ?_
            rcases Bool.eq_false_or_eq_true (r57.2 == false) with h109 | h109
            ·
              have h109p : ((r57.2 = true) ↔ False) := beq_yes Iff.rfl ff_iff h109
              replace hm := ite_yes hm h109p
              refine ops_set 144 (v := .bool true) (eq_bool_of (by kernel_rfl) h109) ?_
              refine ops_set 142 (v := .bool true) (eq_bool_of (by kernel_rfl) h109) ?_
              refine ops_set 143 (v := .bool true) (eq_bool_of (by kernel_rfl) h109) ?_
              refine ops_run 3 (by kernel_rfl) ?_
              rcases Bool.eq_false_or_eq_true (!r57.2) with h110 | h110
              rotate_left
              ·
                have h110p : r57.2 = true := (bnot_false h110)
                replace hm := ite_yes hm h110p
                refine ops_set 147 (v := .bool false) (eq_bool_of (by kernel_rfl) h110) ?_
                refine ops_set 146 (v := .bool false) (eq_bool_of (by kernel_rfl) h110) ?_
                refine ops_run 6 (by kernel_rfl) ?_
                rcases Bool.eq_false_or_eq_true (decide (r57.1 = r63.1)) with h111 | h111
                ·
                  have h111p : r57.1 = r63.1 := of_decide_eq_true h111
                  replace hm := ite_yes hm h111p
                  refine ops_set 153 (v := .bool true) (eq_bool_of (by kernel_rfl) h111) ?_
                  refine ops_set 150 (v := .bool true) (eq_bool_of (by kernel_rfl) h111) ?_
                  refine ops_set 151 (v := .bool true) (eq_bool_of (by kernel_rfl) h111) ?_
                  refine ops_set 152 (v := .bool true) (eq_bool_of (by kernel_rfl) h111) ?_
                  refine ops_run 1 (by kernel_rfl) ?_
                  refine ops_call (pre := []) hs67 (by kernel_rfl) (get_spec (at_ := 2) (hv := (hs67.entAt 0 rfl viewA_at)) B _) ?_
                  rintro _ _ w112 ⟨rfl, rfl⟩ hs113
                  have hs114 : St B w [] w112 [viewA (ptr b16) (List.replicate 4 0) l47, blk b41 (.cells [(.pointer (some ⟨b16, 0, none⟩)), (.int .i64 0), (.int .i64 (1 + short.tmod 128))].toArray 151 (0, 0)), blk b31 (.cells [(.pointer (some ⟨b16, 0, none⟩)), (.int .i64 2), (.int .i64 128)].toArray 151 (0, 0)), blk b24 (.cells [(.pointer (some ⟨b16, 0, none⟩)), (.int .i64 0), (.int .i64 128)].toArray 151 (0, 0)), kU64.row (some ⟨b14, 0, none⟩) 4 (List.replicate 4 0)] := hs113
                  refine ops_run 3 (by kernel_rfl) ?_
                  rcases Bool.eq_false_or_eq_true (decide ((vget (List.replicate 4 0) l47 2) = 0)) with h115 | h115
                  ·
                    have h115p : (vget (List.replicate 4 0) l47 2) = 0 := of_decide_eq_true h115
                    replace hm := ite_yes hm h115p
                    refine ops_set 158 (v := .bool true) (eq_bool_of (by kernel_rfl) h115) ?_
                    refine ops_set 156 (v := .bool true) (eq_bool_of (by kernel_rfl) h115) ?_
                    refine ops_set 157 (v := .bool true) (eq_bool_of (by kernel_rfl) h115) ?_
                    refine ops_run 1 (by kernel_rfl) ?_
                    refine ops_call (pre := []) hs114 (by kernel_rfl) (get_spec (at_ := 3) (hv := (hs114.entAt 0 rfl viewA_at)) B _) ?_
                    rintro _ _ w116 ⟨rfl, rfl⟩ hs117
                    have hs118 : St B w [] w116 [viewA (ptr b16) (List.replicate 4 0) l47, blk b41 (.cells [(.pointer (some ⟨b16, 0, none⟩)), (.int .i64 0), (.int .i64 (1 + short.tmod 128))].toArray 151 (0, 0)), blk b31 (.cells [(.pointer (some ⟨b16, 0, none⟩)), (.int .i64 2), (.int .i64 128)].toArray 151 (0, 0)), blk b24 (.cells [(.pointer (some ⟨b16, 0, none⟩)), (.int .i64 0), (.int .i64 128)].toArray 151 (0, 0)), kU64.row (some ⟨b14, 0, none⟩) 4 (List.replicate 4 0)] := hs117
                    refine ops_run 3 (by kernel_rfl) ?_
                    rcases Bool.eq_false_or_eq_true (decide ((vget (List.replicate 4 0) l47 3) = 0)) with h119 | h119
                    ·
                      have h119p : (vget (List.replicate 4 0) l47 3) = 0 := of_decide_eq_true h119
                      replace hm := ite_yes hm h119p
                      refine ops_set 163 (v := .bool true) (eq_bool_of (by kernel_rfl) h119) ?_
                      refine ops_set 161 (v := .bool true) (eq_bool_of (by kernel_rfl) h119) ?_
                      refine ops_set 162 (v := .bool true) (eq_bool_of (by kernel_rfl) h119) ?_
                      obtain ⟨r120, h121, hm⟩ := bind_some hm
                      refine ops_call (pre := []) hs118 (by kernel_rfl) (works06_walk (hT := (hs118.oldCells hT)) (hm := h121) B _) ?_
                      rintro _ _ w122 ⟨rfl, rfl⟩ hs123
                      have hs124 : St B w [] w122 [viewA (ptr b16) (List.replicate 4 0) l47, blk b41 (.cells [(.pointer (some ⟨b16, 0, none⟩)), (.int .i64 0), (.int .i64 (1 + short.tmod 128))].toArray 151 (0, 0)), blk b31 (.cells [(.pointer (some ⟨b16, 0, none⟩)), (.int .i64 2), (.int .i64 128)].toArray 151 (0, 0)), blk b24 (.cells [(.pointer (some ⟨b16, 0, none⟩)), (.int .i64 0), (.int .i64 128)].toArray 151 (0, 0)), kU64.row (some ⟨b14, 0, none⟩) 4 (List.replicate 4 0)] := hs123
                      refine ops_run 2 (by kernel_rfl) ?_
                      refine ops_done (by kernel_rfl) ?_
                      refine hK68 _ _ ?_
                      clear hK68
                      refine W.ret ?_
                      have hs125 : St B w [] w122 [] := St.take (H := []) hs124
                      refine ret_of (.bool r120) (by kernel_rfl) ⟨_, ⟨congrArg Value.bool (some_inj hm), rfl⟩, hs125⟩
                    ·
                      have h119p : ¬ ((vget (List.replicate 4 0) l47 3) = 0) := of_decide_eq_false h119
                      replace hm := ite_no hm h119p
                      refine ops_set 163 (v := .bool false) (eq_bool_of (by kernel_rfl) h119) ?_
                      refine ops_set 161 (v := .bool false) (eq_bool_of (by kernel_rfl) h119) ?_
                      refine ops_set 162 (v := .bool false) (eq_bool_of (by kernel_rfl) h119) ?_
                      refine ops_run 3 (by kernel_rfl) ?_
                      refine ops_done (by kernel_rfl) ?_
                      refine hK68 _ _ ?_
                      clear hK68
                      refine W.ret ?_
                      have hs126 : St B w [] w116 [] := St.take (H := []) hs118
                      refine ret_of (.bool false) (by kernel_rfl) ⟨_, ⟨congrArg Value.bool (some_inj hm), rfl⟩, hs126⟩
                  ·
                    have h115p : ¬ ((vget (List.replicate 4 0) l47 2) = 0) := of_decide_eq_false h115
                    replace hm := ite_no hm h115p
                    refine ops_set 158 (v := .bool false) (eq_bool_of (by kernel_rfl) h115) ?_
                    refine ops_set 156 (v := .bool false) (eq_bool_of (by kernel_rfl) h115) ?_
                    refine ops_set 157 (v := .bool false) (eq_bool_of (by kernel_rfl) h115) ?_
                    refine ops_run 8 (by kernel_rfl) ?_
                    refine ops_done (by kernel_rfl) ?_
                    refine hK68 _ _ ?_
                    clear hK68
                    refine W.ret ?_
                    have hs127 : St B w [] w112 [] := St.take (H := []) hs114
                    refine ret_of (.bool false) (by kernel_rfl) ⟨_, ⟨congrArg Value.bool (some_inj hm), rfl⟩, hs127⟩
                ·
                  have h111p : ¬ (r57.1 = r63.1) := of_decide_eq_false h111
                  replace hm := ite_no hm h111p
                  refine ops_set 153 (v := .bool false) (eq_bool_of (by kernel_rfl) h111) ?_
                  refine ops_set 150 (v := .bool false) (eq_bool_of (by kernel_rfl) h111) ?_
                  refine ops_set 151 (v := .bool false) (eq_bool_of (by kernel_rfl) h111) ?_
                  refine ops_set 152 (v := .bool false) (eq_bool_of (by kernel_rfl) h111) ?_
                  refine ops_run 13 (by kernel_rfl) ?_
                  refine ops_done (by kernel_rfl) ?_
                  refine hK68 _ _ ?_
                  clear hK68
                  refine W.ret ?_
                  have hs128 : St B w [] w65 [] := St.take (H := []) hs67
                  refine ret_of (.bool false) (by kernel_rfl) ⟨_, ⟨congrArg Value.bool (some_inj hm), rfl⟩, hs128⟩
              ·
                have h110p : ¬ (r57.2 = true) := ne_true_of_eq_false (bnot_true h110)
                replace hm := ite_no hm h110p
                refine ops_set 147 (v := .bool true) (eq_bool_of (by kernel_rfl) h110) ?_
                refine ops_set 146 (v := .bool true) (eq_bool_of (by kernel_rfl) h110) ?_
                refine ops_run 7 (by kernel_rfl) ?_
                refine ops_call (pre := []) hs67 (by kernel_rfl) (get_spec (at_ := 2) (hv := (hs67.entAt 0 rfl viewA_at)) B _) ?_
                rintro _ _ w129 ⟨rfl, rfl⟩ hs130
                have hs131 : St B w [] w129 [viewA (ptr b16) (List.replicate 4 0) l47, blk b41 (.cells [(.pointer (some ⟨b16, 0, none⟩)), (.int .i64 0), (.int .i64 (1 + short.tmod 128))].toArray 151 (0, 0)), blk b31 (.cells [(.pointer (some ⟨b16, 0, none⟩)), (.int .i64 2), (.int .i64 128)].toArray 151 (0, 0)), blk b24 (.cells [(.pointer (some ⟨b16, 0, none⟩)), (.int .i64 0), (.int .i64 128)].toArray 151 (0, 0)), kU64.row (some ⟨b14, 0, none⟩) 4 (List.replicate 4 0)] := hs130
                refine ops_run 3 (by kernel_rfl) ?_
                rcases Bool.eq_false_or_eq_true (decide ((vget (List.replicate 4 0) l47 2) = 0)) with h132 | h132
                ·
                  have h132p : (vget (List.replicate 4 0) l47 2) = 0 := of_decide_eq_true h132
                  replace hm := ite_yes hm h132p
                  refine ops_set 158 (v := .bool true) (eq_bool_of (by kernel_rfl) h132) ?_
                  refine ops_set 156 (v := .bool true) (eq_bool_of (by kernel_rfl) h132) ?_
                  refine ops_set 157 (v := .bool true) (eq_bool_of (by kernel_rfl) h132) ?_
                  refine ops_run 1 (by kernel_rfl) ?_
                  refine ops_call (pre := []) hs131 (by kernel_rfl) (get_spec (at_ := 3) (hv := (hs131.entAt 0 rfl viewA_at)) B _) ?_
                  rintro _ _ w133 ⟨rfl, rfl⟩ hs134
                  have hs135 : St B w [] w133 [viewA (ptr b16) (List.replicate 4 0) l47, blk b41 (.cells [(.pointer (some ⟨b16, 0, none⟩)), (.int .i64 0), (.int .i64 (1 + short.tmod 128))].toArray 151 (0, 0)), blk b31 (.cells [(.pointer (some ⟨b16, 0, none⟩)), (.int .i64 2), (.int .i64 128)].toArray 151 (0, 0)), blk b24 (.cells [(.pointer (some ⟨b16, 0, none⟩)), (.int .i64 0), (.int .i64 128)].toArray 151 (0, 0)), kU64.row (some ⟨b14, 0, none⟩) 4 (List.replicate 4 0)] := hs134
                  refine ops_run 3 (by kernel_rfl) ?_
                  rcases Bool.eq_false_or_eq_true (decide ((vget (List.replicate 4 0) l47 3) = 0)) with h136 | h136
                  ·
                    have h136p : (vget (List.replicate 4 0) l47 3) = 0 := of_decide_eq_true h136
                    replace hm := ite_yes hm h136p
                    refine ops_set 163 (v := .bool true) (eq_bool_of (by kernel_rfl) h136) ?_
                    refine ops_set 161 (v := .bool true) (eq_bool_of (by kernel_rfl) h136) ?_
                    refine ops_set 162 (v := .bool true) (eq_bool_of (by kernel_rfl) h136) ?_
                    obtain ⟨r137, h138, hm⟩ := bind_some hm
                    refine ops_call (pre := []) hs135 (by kernel_rfl) (works06_walk (hT := (hs135.oldCells hT)) (hm := h138) B _) ?_
                    rintro _ _ w139 ⟨rfl, rfl⟩ hs140
                    have hs141 : St B w [] w139 [viewA (ptr b16) (List.replicate 4 0) l47, blk b41 (.cells [(.pointer (some ⟨b16, 0, none⟩)), (.int .i64 0), (.int .i64 (1 + short.tmod 128))].toArray 151 (0, 0)), blk b31 (.cells [(.pointer (some ⟨b16, 0, none⟩)), (.int .i64 2), (.int .i64 128)].toArray 151 (0, 0)), blk b24 (.cells [(.pointer (some ⟨b16, 0, none⟩)), (.int .i64 0), (.int .i64 128)].toArray 151 (0, 0)), kU64.row (some ⟨b14, 0, none⟩) 4 (List.replicate 4 0)] := hs140
                    refine ops_run 2 (by kernel_rfl) ?_
                    refine ops_done (by kernel_rfl) ?_
                    refine hK68 _ _ ?_
                    clear hK68
                    refine W.ret ?_
                    have hs142 : St B w [] w139 [] := St.take (H := []) hs141
                    refine ret_of (.bool r137) (by kernel_rfl) ⟨_, ⟨congrArg Value.bool (some_inj hm), rfl⟩, hs142⟩
                  ·
                    have h136p : ¬ ((vget (List.replicate 4 0) l47 3) = 0) := of_decide_eq_false h136
                    replace hm := ite_no hm h136p
                    refine ops_set 163 (v := .bool false) (eq_bool_of (by kernel_rfl) h136) ?_
                    refine ops_set 161 (v := .bool false) (eq_bool_of (by kernel_rfl) h136) ?_
                    refine ops_set 162 (v := .bool false) (eq_bool_of (by kernel_rfl) h136) ?_
                    refine ops_run 3 (by kernel_rfl) ?_
                    refine ops_done (by kernel_rfl) ?_
                    refine hK68 _ _ ?_
                    clear hK68
                    refine W.ret ?_
                    have hs143 : St B w [] w133 [] := St.take (H := []) hs135
                    refine ret_of (.bool false) (by kernel_rfl) ⟨_, ⟨congrArg Value.bool (some_inj hm), rfl⟩, hs143⟩
                ·
                  have h132p : ¬ ((vget (List.replicate 4 0) l47 2) = 0) := of_decide_eq_false h132
                  replace hm := ite_no hm h132p
                  refine ops_set 158 (v := .bool false) (eq_bool_of (by kernel_rfl) h132) ?_
                  refine ops_set 156 (v := .bool false) (eq_bool_of (by kernel_rfl) h132) ?_
                  refine ops_set 157 (v := .bool false) (eq_bool_of (by kernel_rfl) h132) ?_
                  refine ops_run 8 (by kernel_rfl) ?_
                  refine ops_done (by kernel_rfl) ?_
                  refine hK68 _ _ ?_
                  clear hK68
                  refine W.ret ?_
                  have hs144 : St B w [] w129 [] := St.take (H := []) hs131
                  refine ret_of (.bool false) (by kernel_rfl) ⟨_, ⟨congrArg Value.bool (some_inj hm), rfl⟩, hs144⟩
            ·
              have h109p : ¬ ((r57.2 = true) ↔ False) := beq_no Iff.rfl ff_iff h109
              replace hm := ite_no hm h109p
              refine ops_set 144 (v := .bool false) (eq_bool_of (by kernel_rfl) h109) ?_
              refine ops_set 142 (v := .bool false) (eq_bool_of (by kernel_rfl) h109) ?_
              refine ops_set 143 (v := .bool false) (eq_bool_of (by kernel_rfl) h109) ?_
              refine ops_run 22 (by kernel_rfl) ?_
              refine ops_done (by kernel_rfl) ?_
              refine hK68 _ _ ?_
              clear hK68
              refine W.ret ?_
              have hs145 : St B w [] w65 [] := St.take (H := []) hs67
              refine ret_of (.bool false) (by kernel_rfl) ⟨_, ⟨congrArg Value.bool (some_inj hm), rfl⟩, hs145⟩
        ·
          have h70p : ¬ (r51.2 = true) := ne_true_of_eq_false h70
          replace hm := ite_no hm h70p
          refine ops_set 134 (v := .bool false) (eq_bool_of (by kernel_rfl) h70) ?_
          refine ops_set 118 (v := .bool false) (eq_bool_of (by kernel_rfl) h70) ?_
          refine ops_set 16 (v := .bool false) (eq_bool_of (by kernel_rfl) h70) ?_
          refine ops_set 132 (v := .bool false) (eq_bool_of (by kernel_rfl) h70) ?_
          refine ops_set 133 (v := .bool false) (eq_bool_of (by kernel_rfl) h70) ?_
          refine ops_run 32 (by kernel_rfl) ?_
          refine ops_done (by kernel_rfl) ?_
          refine hK68 _ _ ?_
          clear hK68
          refine W.ret ?_
          have hs146 : St B w [] w65 [] := St.take (H := []) hs67
          refine ret_of (.bool false) (by kernel_rfl) ⟨_, ⟨congrArg Value.bool (some_inj hm), rfl⟩, hs146⟩
      ·
        have h69p : ¬ (r51.1 = 0) := of_decide_eq_false h69
        replace hm := ite_no hm h69p
        refine ops_set 131 (v := .bool false) (eq_bool_of (by kernel_rfl) h69) ?_
        refine ops_set 130 (v := .bool false) (eq_bool_of (by kernel_rfl) h69) ?_
        refine ops_run 35 (by kernel_rfl) ?_
        refine ops_done (by kernel_rfl) ?_
        refine hK68 _ _ ?_
        clear hK68
        refine W.ret ?_
        have hs147 : St B w [] w65 [] := St.take (H := []) hs67
        refine ret_of (.bool false) (by kernel_rfl) ⟨_, ⟨congrArg Value.bool (some_inj hm), rfl⟩, hs147⟩
    ·
      refine W.seq fun K148 hK148 => ?_
      refine W.region ?_
      refine ops_run 1 (by kernel_rfl) ?_
      refine ops_done (by kernel_rfl) ?_
      refine hK148 _ _ ?_
      clear hK148
      refine W.block ?_
      have hs155 : St B w [] w42 [kU64.row (some ⟨b14, 0, none⟩) 4 (List.replicate 4 0), blk b41 (.cells [(.pointer (some ⟨b16, 0, none⟩)), (.int .i64 0), (.int .i64 (1 + short.tmod 128))].toArray 151 (0, 0)), blk b31 (.cells [(.pointer (some ⟨b16, 0, none⟩)), (.int .i64 2), (.int .i64 128)].toArray 151 (0, 0)), blk b24 (.cells [(.pointer (some ⟨b16, 0, none⟩)), (.int .i64 0), (.int .i64 128)].toArray 151 (0, 0)), viewA (ptr b16) (List.replicate 4 0) ([])] := hs44.front 4 (by simp)
      have hs156 : St B w [] w42 [blk b24 (.cells [(.pointer (some ⟨b16, 0, none⟩)), (.int .i64 0), (.int .i64 128)].toArray 151 (0, 0)), kU64.row (some ⟨b14, 0, none⟩) 4 (List.replicate 4 0), blk b41 (.cells [(.pointer (some ⟨b16, 0, none⟩)), (.int .i64 0), (.int .i64 (1 + short.tmod 128))].toArray 151 (0, 0)), blk b31 (.cells [(.pointer (some ⟨b16, 0, none⟩)), (.int .i64 2), (.int .i64 128)].toArray 151 (0, 0)), viewA (ptr b16) (List.replicate 4 0) ([])] := hs155.front 3 (by simp)
      have hs157 : St B w [] w42 [blk b31 (.cells [(.pointer (some ⟨b16, 0, none⟩)), (.int .i64 2), (.int .i64 128)].toArray 151 (0, 0)), blk b24 (.cells [(.pointer (some ⟨b16, 0, none⟩)), (.int .i64 0), (.int .i64 128)].toArray 151 (0, 0)), kU64.row (some ⟨b14, 0, none⟩) 4 (List.replicate 4 0), blk b41 (.cells [(.pointer (some ⟨b16, 0, none⟩)), (.int .i64 0), (.int .i64 (1 + short.tmod 128))].toArray 151 (0, 0)), viewA (ptr b16) (List.replicate 4 0) ([])] := hs156.front 3 (by simp)
      have hs158 : St B w [] w42 [blk b41 (.cells [(.pointer (some ⟨b16, 0, none⟩)), (.int .i64 0), (.int .i64 (1 + short.tmod 128))].toArray 151 (0, 0)), blk b31 (.cells [(.pointer (some ⟨b16, 0, none⟩)), (.int .i64 2), (.int .i64 128)].toArray 151 (0, 0)), blk b24 (.cells [(.pointer (some ⟨b16, 0, none⟩)), (.int .i64 0), (.int .i64 128)].toArray 151 (0, 0)), kU64.row (some ⟨b14, 0, none⟩) 4 (List.replicate 4 0), viewA (ptr b16) (List.replicate 4 0) ([])] := hs157.front 3 (by simp)
      have hs159 : St B w [] w42 [viewA (ptr b16) (List.replicate 4 0) ([]), blk b41 (.cells [(.pointer (some ⟨b16, 0, none⟩)), (.int .i64 0), (.int .i64 (1 + short.tmod 128))].toArray 151 (0, 0)), blk b31 (.cells [(.pointer (some ⟨b16, 0, none⟩)), (.int .i64 2), (.int .i64 128)].toArray 151 (0, 0)), blk b24 (.cells [(.pointer (some ⟨b16, 0, none⟩)), (.int .i64 0), (.int .i64 128)].toArray 151 (0, 0)), kU64.row (some ⟨b14, 0, none⟩) 4 (List.replicate 4 0)] := hs158.front 4 (by simp)
      refine W.loop_iter (G := (List (Int × Int)) × Int) (σ := (List (Int × Int)) × Int) (fun | (l149, p150) => (l149, p150)) (fun | (l149, p150), s_, w_ => (∃ us, s_ = slots 166 [(0, (.slice la ls.length lc)), (5, (.pointer (some ⟨b16, 0, none⟩))), (6, (.pointer (some ⟨b24, 0, none⟩))), (8, (.pointer (some ⟨b31, 0, none⟩))), (10, (.int .i64 (1 + short.tmod 128))), (11, (.pointer (some ⟨b41, 0, none⟩))), (13, (.int .i64 p150))] us) ∧ St B w [] w_ [viewA (ptr b16) (List.replicate 4 0) l149, blk b41 (.cells [(.pointer (some ⟨b16, 0, none⟩)), (.int .i64 0), (.int .i64 (1 + short.tmod 128))].toArray 151 (0, 0)), blk b31 (.cells [(.pointer (some ⟨b16, 0, none⟩)), (.int .i64 2), (.int .i64 128)].toArray 151 (0, 0)), blk b24 (.cells [(.pointer (some ⟨b16, 0, none⟩)), (.int .i64 0), (.int .i64 128)].toArray 151 (0, 0)), kU64.row (some ⟨b14, 0, none⟩) 4 (List.replicate 4 0)]) ([], 0) ⟨slots_intro _ (by kernel_rfl), hs159⟩ hm ?_
      rintro k151 ih152 ⟨l149, p150⟩ _ w153 ⟨⟨us, rfl⟩, hs154⟩ hm
      replace hm : bitmaptwo_B0 ls short k151 l149 p150 = some true := hm
      unfold bitmaptwo_B0 at hm
      refine W.seq fun K160 hK160 => ?_
      refine W.seq fun K161 hK161 => ?_
      refine W.region ?_
      refine ops_run 4 (by kernel_rfl) ?_
      refine ops_done (by kernel_rfl) ?_
      refine hK161 _ _ ?_
      clear hK161
      refine W.cond (decide (p150 < (ls.length : Int))) (by kernel_rfl) (fun h162 => ?_) (fun h162 => ?_)
      ·
        have h162p : p150 < (ls.length : Int) := of_decide_eq_true h162
        replace hm := ite_yes hm h162p
        refine W.skip ?_
        refine hK160 _ _ ?_
        clear hK160
        refine W.seq fun K163 hK163 => ?_
        refine W.block ?_
        refine W.seq fun K164 hK164 => ?_
        refine W.region ?_
        refine ops_run 2 (by kernel_rfl) ?_
        obtain ⟨h166, hm⟩ := need_some hm
        have hk165 := lt_toNat h166
        refine ops_R (runs_index (a := la) (n := ls.length) (z := p150) (size := 1) p150.toNat (nat_of h166.1) hk165 (kU16.addr (hs154.oldCells hl) hk165) (by kernel_rfl)) ?_
        refine ops_R (runs_load (ad := ((adr la (p150.toNat * 1)).add 0)) (v := (.int .u16 (ls.getD p150.toNat 0))) (by kernel_rfl) (kU16.at (hs154.oldCells hl) hk165 0 0 rfl)) ?_
        obtain ⟨h167, hm⟩ := need_some hm
        refine ops_val (v := .int .i64 (IntKind.i64.wrap (ls.getD p150.toNat 0))) (v' := .int .i64 (ls.getD p150.toNat 0)) (by kernel_rfl) (congrArg (Value.int .i64) (wrap_i64 h167.1 h167.2)) ?_
        refine ops_run 2 (by kernel_rfl) ?_
        obtain ⟨r168, h169, hm⟩ := bind_some hm
        replace h169 := some_inj h169
        refine ops_set 14 (v := .int .i64 r168) (Eq.trans (by kernel_rfl) (congrArg (Value.int .i64) h169)) ?_
        refine ops_done (by kernel_rfl) ?_
        refine hK164 _ _ ?_
        clear hK164
        refine W.seq fun K170 hK170 => ?_
        refine W.region ?_
        refine ops_run 4 (by kernel_rfl) ?_
        obtain ⟨h172, hm⟩ := need_some hm
        have hk171 := lt_toNat h172
        refine ops_R (runs_index (a := la) (n := ls.length) (z := p150) (size := 1) p150.toNat (nat_of h172.1) hk171 (kU16.addr (hs154.oldCells hl) hk171) (by kernel_rfl)) ?_
        refine ops_R (runs_load (ad := ((adr la (p150.toNat * 1)).add 0)) (v := (.int .u16 (ls.getD p150.toNat 0))) (by kernel_rfl) (kU16.at (hs154.oldCells hl) hk171 0 0 rfl)) ?_
        refine ops_run 2 (by kernel_rfl) ?_
        obtain ⟨r173, h174, hm⟩ := bind_some hm
        have hs175 : St B w [] w153 [blk b24 (.cells [(.pointer (some ⟨b16, 0, none⟩)), (.int .i64 0), (.int .i64 128)].toArray 151 (0, 0)), viewA (ptr b16) (List.replicate 4 0) l149, blk b41 (.cells [(.pointer (some ⟨b16, 0, none⟩)), (.int .i64 0), (.int .i64 (1 + short.tmod 128))].toArray 151 (0, 0)), blk b31 (.cells [(.pointer (some ⟨b16, 0, none⟩)), (.int .i64 2), (.int .i64 128)].toArray 151 (0, 0)), kU64.row (some ⟨b14, 0, none⟩) 4 (List.replicate 4 0)] := hs154.front 3 (by simp)
        refine ops_call (pre := [blk b24 (.cells [(.pointer (some ⟨b16, 0, none⟩)), (.int .i64 0), (.int .i64 128)].toArray 151 (0, 0)), viewA (ptr b16) (List.replicate 4 0) l149]) hs175 (by kernel_rfl) (mset_walk (hm := h174) B _) ?_
        rintro _ _ w176 ⟨rfl, rfl⟩ hs177
        have hs178 : St B w [] w176 [blk b24 (.cells [(.pointer (some ⟨b16, 0, none⟩)), (.int .i64 0), (.int .i64 128)].toArray 151 (0, 0)), viewA (ptr b16) (List.replicate 4 0) r173.2, blk b41 (.cells [(.pointer (some ⟨b16, 0, none⟩)), (.int .i64 0), (.int .i64 (1 + short.tmod 128))].toArray 151 (0, 0)), blk b31 (.cells [(.pointer (some ⟨b16, 0, none⟩)), (.int .i64 2), (.int .i64 128)].toArray 151 (0, 0)), kU64.row (some ⟨b14, 0, none⟩) 4 (List.replicate 4 0)] := hs177
        refine ops_run 2 (by kernel_rfl) ?_
        rcases Bool.eq_false_or_eq_true (!decide (r173.1 = 0)) with h179 | h179
        rotate_left
        ·
          have h179p : r173.1 = 0 := of_decide_eq_true (bnot_false h179)
          replace hm := ite_yes hm h179p
          refine ops_set 95 (v := .bool false) (eq_bool_of (by kernel_rfl) h179) ?_
          refine ops_set 94 (v := .bool false) (eq_bool_of (by kernel_rfl) h179) ?_
          refine ops_run 2 (by kernel_rfl) ?_
          obtain ⟨r180, h181, hm⟩ := bind_some hm
          refine ops_call (pre := []) hs178 (by kernel_rfl) (mget_walk (hmb := (hs178.heapAt 2 rfl)) (hv := (hs178.entAt 1 rfl viewA_at)) (hm := h181) B _) ?_
          rintro _ _ w182 ⟨rfl, rfl⟩ hs183
          have hs184 : St B w [] w182 [blk b24 (.cells [(.pointer (some ⟨b16, 0, none⟩)), (.int .i64 0), (.int .i64 128)].toArray 151 (0, 0)), viewA (ptr b16) (List.replicate 4 0) r173.2, blk b41 (.cells [(.pointer (some ⟨b16, 0, none⟩)), (.int .i64 0), (.int .i64 (1 + short.tmod 128))].toArray 151 (0, 0)), blk b31 (.cells [(.pointer (some ⟨b16, 0, none⟩)), (.int .i64 2), (.int .i64 128)].toArray 151 (0, 0)), kU64.row (some ⟨b14, 0, none⟩) 4 (List.replicate 4 0)] := hs183
          refine ops_run 4 (by kernel_rfl) ?_
          rcases Bool.eq_false_or_eq_true (decide (r168 < (1 + short.tmod 128))) with h185 | h185
          ·
            have h185p : r168 < (1 + short.tmod 128) := of_decide_eq_true h185
            replace hm := ite_yes hm h185p
            refine ops_set 102 (v := .bool true) (eq_bool_of (by kernel_rfl) h185) ?_
            refine ops_set 101 (v := .bool true) (eq_bool_of (by kernel_rfl) h185) ?_
            refine ops_run 2 (by kernel_rfl) ?_
            obtain ⟨r186, h187, hm⟩ := bind_some hm
            refine ops_call (pre := []) hs184 (by kernel_rfl) (mget_walk (hmb := (hs184.heapAt 0 rfl)) (hv := (hs184.entAt 1 rfl viewA_at)) (hm := h187) B _) ?_
            rintro _ _ w188 ⟨rfl, rfl⟩ hs189
            have hs190 : St B w [] w188 [blk b24 (.cells [(.pointer (some ⟨b16, 0, none⟩)), (.int .i64 0), (.int .i64 128)].toArray 151 (0, 0)), viewA (ptr b16) (List.replicate 4 0) r173.2, blk b41 (.cells [(.pointer (some ⟨b16, 0, none⟩)), (.int .i64 0), (.int .i64 (1 + short.tmod 128))].toArray 151 (0, 0)), blk b31 (.cells [(.pointer (some ⟨b16, 0, none⟩)), (.int .i64 2), (.int .i64 128)].toArray 151 (0, 0)), kU64.row (some ⟨b14, 0, none⟩) 4 (List.replicate 4 0)] := hs189
            refine ops_run 4 (by kernel_rfl) ?_
            rcases Bool.eq_false_or_eq_true (!(r180 == r186)) with h191 | h191
            rotate_left
            ·
              have h191p : ((r180 = true) ↔ (r186 = true)) := beq_yes Iff.rfl Iff.rfl (bnot_false h191)
              replace hm := ite_yes hm h191p
              refine ops_set 109 (v := .bool false) (eq_bool_of (by kernel_rfl) h191) ?_
              refine ops_set 107 (v := .bool false) (eq_bool_of (by kernel_rfl) h191) ?_
              refine ops_set 108 (v := .bool false) (eq_bool_of (by kernel_rfl) h191) ?_
              refine ops_run 1 (by kernel_rfl) ?_
              obtain ⟨r192, h193, hm⟩ := bind_some hm
              refine ops_call (pre := []) hs190 (by kernel_rfl) (mcount_walk (hmb := (hs190.heapAt 3 rfl)) (hv := (hs190.entAt 1 rfl viewA_at)) (hm := h193) B _) ?_
              rintro _ _ w194 ⟨rfl, rfl⟩ hs195
              have hs196 : St B w [] w194 [blk b24 (.cells [(.pointer (some ⟨b16, 0, none⟩)), (.int .i64 0), (.int .i64 128)].toArray 151 (0, 0)), viewA (ptr b16) (List.replicate 4 0) r173.2, blk b41 (.cells [(.pointer (some ⟨b16, 0, none⟩)), (.int .i64 0), (.int .i64 (1 + short.tmod 128))].toArray 151 (0, 0)), blk b31 (.cells [(.pointer (some ⟨b16, 0, none⟩)), (.int .i64 2), (.int .i64 128)].toArray 151 (0, 0)), kU64.row (some ⟨b14, 0, none⟩) 4 (List.replicate 4 0)] := hs195
              refine ops_run 2 (by kernel_rfl) ?_
              refine ops_done (by kernel_rfl) ?_
              refine hK170 _ _ ?_
              clear hK170
              refine W.cond (!decide (r192 = 0)) (by kernel_rfl) (fun h197 => ?_) (fun h197 => ?_)
              rotate_left
              ·
                have h197p : r192 = 0 := of_decide_eq_true (bnot_false h197)
                replace hm := ite_yes hm h197p
                refine W.skip ?_
                refine normal_block ?_
                refine hK163 _ _ ?_
                clear hK163
                refine W.region ?_
                refine ops_run 1 (by kernel_rfl) ?_
                obtain ⟨h198, hm⟩ := need_some hm
                refine ops_val (v := .int .i64 (IntKind.i64.wrap (p150 + 1))) (v' := .int .i64 (p150 + 1)) (by kernel_rfl) (congrArg (Value.int .i64) (wrap_i64 h198.1 h198.2)) ?_
                refine ops_run 1 (by kernel_rfl) ?_
                refine ops_done (by kernel_rfl) ?_
                have hs199 : St B w [] w194 [kU64.row (some ⟨b14, 0, none⟩) 4 (List.replicate 4 0), blk b24 (.cells [(.pointer (some ⟨b16, 0, none⟩)), (.int .i64 0), (.int .i64 128)].toArray 151 (0, 0)), viewA (ptr b16) (List.replicate 4 0) r173.2, blk b41 (.cells [(.pointer (some ⟨b16, 0, none⟩)), (.int .i64 0), (.int .i64 (1 + short.tmod 128))].toArray 151 (0, 0)), blk b31 (.cells [(.pointer (some ⟨b16, 0, none⟩)), (.int .i64 2), (.int .i64 128)].toArray 151 (0, 0))] := hs196.front 4 (by simp)
                have hs200 : St B w [] w194 [blk b24 (.cells [(.pointer (some ⟨b16, 0, none⟩)), (.int .i64 0), (.int .i64 128)].toArray 151 (0, 0)), kU64.row (some ⟨b14, 0, none⟩) 4 (List.replicate 4 0), viewA (ptr b16) (List.replicate 4 0) r173.2, blk b41 (.cells [(.pointer (some ⟨b16, 0, none⟩)), (.int .i64 0), (.int .i64 (1 + short.tmod 128))].toArray 151 (0, 0)), blk b31 (.cells [(.pointer (some ⟨b16, 0, none⟩)), (.int .i64 2), (.int .i64 128)].toArray 151 (0, 0))] := hs199.front 1 (by simp)
                have hs201 : St B w [] w194 [blk b31 (.cells [(.pointer (some ⟨b16, 0, none⟩)), (.int .i64 2), (.int .i64 128)].toArray 151 (0, 0)), blk b24 (.cells [(.pointer (some ⟨b16, 0, none⟩)), (.int .i64 0), (.int .i64 128)].toArray 151 (0, 0)), kU64.row (some ⟨b14, 0, none⟩) 4 (List.replicate 4 0), viewA (ptr b16) (List.replicate 4 0) r173.2, blk b41 (.cells [(.pointer (some ⟨b16, 0, none⟩)), (.int .i64 0), (.int .i64 (1 + short.tmod 128))].toArray 151 (0, 0))] := hs200.front 4 (by simp)
                have hs202 : St B w [] w194 [blk b41 (.cells [(.pointer (some ⟨b16, 0, none⟩)), (.int .i64 0), (.int .i64 (1 + short.tmod 128))].toArray 151 (0, 0)), blk b31 (.cells [(.pointer (some ⟨b16, 0, none⟩)), (.int .i64 2), (.int .i64 128)].toArray 151 (0, 0)), blk b24 (.cells [(.pointer (some ⟨b16, 0, none⟩)), (.int .i64 0), (.int .i64 128)].toArray 151 (0, 0)), kU64.row (some ⟨b14, 0, none⟩) 4 (List.replicate 4 0), viewA (ptr b16) (List.replicate 4 0) r173.2] := hs201.front 4 (by simp)
                have hs203 : St B w [] w194 [viewA (ptr b16) (List.replicate 4 0) r173.2, blk b41 (.cells [(.pointer (some ⟨b16, 0, none⟩)), (.int .i64 0), (.int .i64 (1 + short.tmod 128))].toArray 151 (0, 0)), blk b31 (.cells [(.pointer (some ⟨b16, 0, none⟩)), (.int .i64 2), (.int .i64 128)].toArray 151 (0, 0)), blk b24 (.cells [(.pointer (some ⟨b16, 0, none⟩)), (.int .i64 0), (.int .i64 128)].toArray 151 (0, 0)), kU64.row (some ⟨b14, 0, none⟩) 4 (List.replicate 4 0)] := hs202.front 4 (by simp)
                refine loopAt_next ?_
                exact ih152 (r173.2, (p150 + 1)) _ _ ⟨slots_intro _ (by kernel_rfl), hs203⟩ hm
              ·
                have h197p : ¬ (r192 = 0) := of_decide_eq_false (bnot_true h197)
                replace hm := ite_no hm h197p
                refine W.seq fun K204 hK204 => ?_
                refine W.region ?_
                refine ops_run 1 (by kernel_rfl) ?_
                refine ops_done (by kernel_rfl) ?_
                refine hK204 _ _ ?_
                clear hK204
                refine W.ret (ret_block (ret_seq (ret_seq (ret_block (ret_seq ?_)))))
                have hs205 : St B w [] w194 [] := St.take (H := []) hs196
                refine ret_of (.bool false) (by kernel_rfl) ⟨_, ⟨congrArg Value.bool (some_inj hm), rfl⟩, hs205⟩
            ·
              have h191p : ¬ ((r180 = true) ↔ (r186 = true)) := beq_no Iff.rfl Iff.rfl (bnot_true h191)
              replace hm := ite_no hm h191p
              refine ops_set 109 (v := .bool true) (eq_bool_of (by kernel_rfl) h191) ?_
              refine ops_set 107 (v := .bool true) (eq_bool_of (by kernel_rfl) h191) ?_
              refine ops_set 108 (v := .bool true) (eq_bool_of (by kernel_rfl) h191) ?_
              refine ops_run 4 (by kernel_rfl) ?_
              refine ops_done (by kernel_rfl) ?_
              refine hK170 _ _ ?_
              clear hK170
              refine W.cond_true true (by kernel_rfl) rfl ?_
              refine W.seq fun K206 hK206 => ?_
              refine W.region ?_
              refine ops_run 1 (by kernel_rfl) ?_
              refine ops_done (by kernel_rfl) ?_
              refine hK206 _ _ ?_
              clear hK206
              refine W.ret (ret_block (ret_seq (ret_seq (ret_block (ret_seq ?_)))))
              have hs207 : St B w [] w188 [] := St.take (H := []) hs190
              refine ret_of (.bool false) (by kernel_rfl) ⟨_, ⟨congrArg Value.bool (some_inj hm), rfl⟩, hs207⟩
          ·
            have h185p : ¬ (r168 < (1 + short.tmod 128)) := of_decide_eq_false h185
            replace hm := ite_no hm h185p
            refine ops_set 102 (v := .bool false) (eq_bool_of (by kernel_rfl) h185) ?_
            refine ops_set 101 (v := .bool false) (eq_bool_of (by kernel_rfl) h185) ?_
            refine ops_run 7 (by kernel_rfl) ?_
            rcases Bool.eq_false_or_eq_true (!(r180 == false)) with h208 | h208
            rotate_left
            ·
              have h208p : ((r180 = true) ↔ False) := beq_yes Iff.rfl ff_iff (bnot_false h208)
              replace hm := ite_yes hm h208p
              refine ops_set 109 (v := .bool false) (eq_bool_of (by kernel_rfl) h208) ?_
              refine ops_set 107 (v := .bool false) (eq_bool_of (by kernel_rfl) h208) ?_
              refine ops_set 108 (v := .bool false) (eq_bool_of (by kernel_rfl) h208) ?_
              refine ops_run 1 (by kernel_rfl) ?_
              obtain ⟨r209, h210, hm⟩ := bind_some hm
              refine ops_call (pre := []) hs184 (by kernel_rfl) (mcount_walk (hmb := (hs184.heapAt 3 rfl)) (hv := (hs184.entAt 1 rfl viewA_at)) (hm := h210) B _) ?_
              rintro _ _ w211 ⟨rfl, rfl⟩ hs212
              have hs213 : St B w [] w211 [blk b24 (.cells [(.pointer (some ⟨b16, 0, none⟩)), (.int .i64 0), (.int .i64 128)].toArray 151 (0, 0)), viewA (ptr b16) (List.replicate 4 0) r173.2, blk b41 (.cells [(.pointer (some ⟨b16, 0, none⟩)), (.int .i64 0), (.int .i64 (1 + short.tmod 128))].toArray 151 (0, 0)), blk b31 (.cells [(.pointer (some ⟨b16, 0, none⟩)), (.int .i64 2), (.int .i64 128)].toArray 151 (0, 0)), kU64.row (some ⟨b14, 0, none⟩) 4 (List.replicate 4 0)] := hs212
              refine ops_run 2 (by kernel_rfl) ?_
              refine ops_done (by kernel_rfl) ?_
              refine hK170 _ _ ?_
              clear hK170
              refine W.cond (!decide (r209 = 0)) (by kernel_rfl) (fun h214 => ?_) (fun h214 => ?_)
              rotate_left
              ·
                have h214p : r209 = 0 := of_decide_eq_true (bnot_false h214)
                replace hm := ite_yes hm h214p
                refine W.skip ?_
                refine normal_block ?_
                refine hK163 _ _ ?_
                clear hK163
                refine W.region ?_
                refine ops_run 1 (by kernel_rfl) ?_
                obtain ⟨h215, hm⟩ := need_some hm
                refine ops_val (v := .int .i64 (IntKind.i64.wrap (p150 + 1))) (v' := .int .i64 (p150 + 1)) (by kernel_rfl) (congrArg (Value.int .i64) (wrap_i64 h215.1 h215.2)) ?_
                refine ops_run 1 (by kernel_rfl) ?_
                refine ops_done (by kernel_rfl) ?_
                have hs216 : St B w [] w211 [kU64.row (some ⟨b14, 0, none⟩) 4 (List.replicate 4 0), blk b24 (.cells [(.pointer (some ⟨b16, 0, none⟩)), (.int .i64 0), (.int .i64 128)].toArray 151 (0, 0)), viewA (ptr b16) (List.replicate 4 0) r173.2, blk b41 (.cells [(.pointer (some ⟨b16, 0, none⟩)), (.int .i64 0), (.int .i64 (1 + short.tmod 128))].toArray 151 (0, 0)), blk b31 (.cells [(.pointer (some ⟨b16, 0, none⟩)), (.int .i64 2), (.int .i64 128)].toArray 151 (0, 0))] := hs213.front 4 (by simp)
                have hs217 : St B w [] w211 [blk b24 (.cells [(.pointer (some ⟨b16, 0, none⟩)), (.int .i64 0), (.int .i64 128)].toArray 151 (0, 0)), kU64.row (some ⟨b14, 0, none⟩) 4 (List.replicate 4 0), viewA (ptr b16) (List.replicate 4 0) r173.2, blk b41 (.cells [(.pointer (some ⟨b16, 0, none⟩)), (.int .i64 0), (.int .i64 (1 + short.tmod 128))].toArray 151 (0, 0)), blk b31 (.cells [(.pointer (some ⟨b16, 0, none⟩)), (.int .i64 2), (.int .i64 128)].toArray 151 (0, 0))] := hs216.front 1 (by simp)
                have hs218 : St B w [] w211 [blk b31 (.cells [(.pointer (some ⟨b16, 0, none⟩)), (.int .i64 2), (.int .i64 128)].toArray 151 (0, 0)), blk b24 (.cells [(.pointer (some ⟨b16, 0, none⟩)), (.int .i64 0), (.int .i64 128)].toArray 151 (0, 0)), kU64.row (some ⟨b14, 0, none⟩) 4 (List.replicate 4 0), viewA (ptr b16) (List.replicate 4 0) r173.2, blk b41 (.cells [(.pointer (some ⟨b16, 0, none⟩)), (.int .i64 0), (.int .i64 (1 + short.tmod 128))].toArray 151 (0, 0))] := hs217.front 4 (by simp)
                have hs219 : St B w [] w211 [blk b41 (.cells [(.pointer (some ⟨b16, 0, none⟩)), (.int .i64 0), (.int .i64 (1 + short.tmod 128))].toArray 151 (0, 0)), blk b31 (.cells [(.pointer (some ⟨b16, 0, none⟩)), (.int .i64 2), (.int .i64 128)].toArray 151 (0, 0)), blk b24 (.cells [(.pointer (some ⟨b16, 0, none⟩)), (.int .i64 0), (.int .i64 128)].toArray 151 (0, 0)), kU64.row (some ⟨b14, 0, none⟩) 4 (List.replicate 4 0), viewA (ptr b16) (List.replicate 4 0) r173.2] := hs218.front 4 (by simp)
                have hs220 : St B w [] w211 [viewA (ptr b16) (List.replicate 4 0) r173.2, blk b41 (.cells [(.pointer (some ⟨b16, 0, none⟩)), (.int .i64 0), (.int .i64 (1 + short.tmod 128))].toArray 151 (0, 0)), blk b31 (.cells [(.pointer (some ⟨b16, 0, none⟩)), (.int .i64 2), (.int .i64 128)].toArray 151 (0, 0)), blk b24 (.cells [(.pointer (some ⟨b16, 0, none⟩)), (.int .i64 0), (.int .i64 128)].toArray 151 (0, 0)), kU64.row (some ⟨b14, 0, none⟩) 4 (List.replicate 4 0)] := hs219.front 4 (by simp)
                refine loopAt_next ?_
                exact ih152 (r173.2, (p150 + 1)) _ _ ⟨slots_intro _ (by kernel_rfl), hs220⟩ hm
              ·
                have h214p : ¬ (r209 = 0) := of_decide_eq_false (bnot_true h214)
                replace hm := ite_no hm h214p
                refine W.seq fun K221 hK221 => ?_
                refine W.region ?_
                refine ops_run 1 (by kernel_rfl) ?_
                refine ops_done (by kernel_rfl) ?_
                refine hK221 _ _ ?_
                clear hK221
                refine W.ret (ret_block (ret_seq (ret_seq (ret_block (ret_seq ?_)))))
                have hs222 : St B w [] w211 [] := St.take (H := []) hs213
                refine ret_of (.bool false) (by kernel_rfl) ⟨_, ⟨congrArg Value.bool (some_inj hm), rfl⟩, hs222⟩
            ·
              have h208p : ¬ ((r180 = true) ↔ False) := beq_no Iff.rfl ff_iff (bnot_true h208)
              replace hm := ite_no hm h208p
              refine ops_set 109 (v := .bool true) (eq_bool_of (by kernel_rfl) h208) ?_
              refine ops_set 107 (v := .bool true) (eq_bool_of (by kernel_rfl) h208) ?_
              refine ops_set 108 (v := .bool true) (eq_bool_of (by kernel_rfl) h208) ?_
              refine ops_run 4 (by kernel_rfl) ?_
              refine ops_done (by kernel_rfl) ?_
              refine hK170 _ _ ?_
              clear hK170
              refine W.cond_true true (by kernel_rfl) rfl ?_
              refine W.seq fun K223 hK223 => ?_
              refine W.region ?_
              refine ops_run 1 (by kernel_rfl) ?_
              refine ops_done (by kernel_rfl) ?_
              refine hK223 _ _ ?_
              clear hK223
              refine W.ret (ret_block (ret_seq (ret_seq (ret_block (ret_seq ?_)))))
              have hs224 : St B w [] w182 [] := St.take (H := []) hs184
              refine ret_of (.bool false) (by kernel_rfl) ⟨_, ⟨congrArg Value.bool (some_inj hm), rfl⟩, hs224⟩
        ·
          have h179p : ¬ (r173.1 = 0) := of_decide_eq_false (bnot_true h179)
          replace hm := ite_no hm h179p
          refine ops_set 95 (v := .bool true) (eq_bool_of (by kernel_rfl) h179) ?_
          refine ops_set 94 (v := .bool true) (eq_bool_of (by kernel_rfl) h179) ?_
          refine ops_run 18 (by kernel_rfl) ?_
          refine ops_done (by kernel_rfl) ?_
          refine hK170 _ _ ?_
          clear hK170
          refine W.cond_true true (by kernel_rfl) rfl ?_
          refine W.seq fun K225 hK225 => ?_
          refine W.region ?_
          refine ops_run 1 (by kernel_rfl) ?_
          refine ops_done (by kernel_rfl) ?_
          refine hK225 _ _ ?_
          clear hK225
          refine W.ret (ret_block (ret_seq (ret_seq (ret_block (ret_seq ?_)))))
          have hs226 : St B w [] w176 [] := St.take (H := []) hs178
          refine ret_of (.bool false) (by kernel_rfl) ⟨_, ⟨congrArg Value.bool (some_inj hm), rfl⟩, hs226⟩
      ·
        have h162p : ¬ (p150 < (ls.length : Int)) := of_decide_eq_false h162
        replace hm := ite_no hm h162p
        refine W.exit (exit_seq (exit_seq (exit_here ?_)))
        exact ⟨l149, slots_intro _ (by kernel_rfl), hs154, hm⟩

end Go.Proofs.YthimamnblklkbaaDoor
