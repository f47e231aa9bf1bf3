/- What the code computes, by a program. -/
import Derived.Test.YthimamnblklkbaaDoorGM
import Derived.Test.YthimamnblklkbaaDoorGC
namespace Go.Proofs.YthimamnblklkbaaDoor
open Go Go.RowKit
set_option linter.unusedSimpArgs false
set_option linter.unusedVariables false

def classwindow_J1 (i_ : Int) (g_ : Int) (m_ : Int) (s0_ : Int) (s1_ : Int) (s2_ : Int) (s3_ : Int) (p141 : Int) : Option (Bool) :=
  (cof_M ((((((((fmtW 1 (2 + 0 % 20) (2 + 0 % 60)).set ((sessAt (i_.tmod 4)).toNat) 1).set (((sessAt (i_.tmod 4)) + 1).toNat) g_).set (((sessAt (i_.tmod 4)) + 2).toNat) (m_.tmod 1099511627766)).set ((slotAt (i_.tmod 4) 0).toNat) s0_).set ((slotAt (i_.tmod 4) 1).toNat) s1_).set ((slotAt (i_.tmod 4) 2).toNat) s2_).set ((slotAt (i_.tmod 4) 3).toNat) s3_) ([]) (i_.tmod 4) ((g_ + 1) % 18446744073709551616) ((m_.tmod 1099511627766 + 1) % 18446744073709551616)).bind fun r145 =>
if p141 = 4 then (if r145.2.2.2.2.2 = 22 then ((works11_M).bind fun r164 =>
some r164) else (some false)) else (some false)

def classwindow_J4 (k177 : (Int × Int) → Option (Bool)) (p175 : Int) (p176 : Int) (p202 : Bool) : Option (Bool) :=
  if p202 = true then (need (-9223372036854775808 ≤ (p175 + 1) ∧ (p175 + 1) ≤ 9223372036854775807) <|
(some ((p176 + 1) % 18446744073709551616)).bind fun r207 =>
k177 ((p175 + 1), r207)) else ((some ((p176 + 1) % 18446744073709551616)).bind fun r213 =>
k177 (p175, r213))

def classwindow_J3 (k177 : (Int × Int) → Option (Bool)) (p175 : Int) (p176 : Int) (r189 : Int × Int × Int × Int × ByteArray × Int) : Option (Bool) :=
  if r189.1 = 0 then (classwindow_J4 k177 p175 p176 true) else (classwindow_J4 k177 p175 p176 (decide (r189.1 = 1)))

def classwindow_B1 (i_ : Int) (g_ : Int) (m_ : Int) (s0_ : Int) (s1_ : Int) (s2_ : Int) (s3_ : Int) (k177 : (Int × Int) → Option (Bool)) (p175 : Int) (p176 : Int) : Option (Bool) :=
  if p176 < ((m_.tmod 1099511627766 + 9) % 18446744073709551616) then ((cof_M ((((((((fmtW 1 (2 + 0 % 20) (2 + 0 % 60)).set ((sessAt (i_.tmod 4)).toNat) 1).set (((sessAt (i_.tmod 4)) + 1).toNat) g_).set (((sessAt (i_.tmod 4)) + 2).toNat) (m_.tmod 1099511627766)).set ((slotAt (i_.tmod 4) 0).toNat) s0_).set ((slotAt (i_.tmod 4) 1).toNat) s1_).set ((slotAt (i_.tmod 4) 2).toNat) s2_).set ((slotAt (i_.tmod 4) 3).toNat) s3_) ([]) (i_.tmod 4) g_ p176).bind fun r189 =>
if r189.2.2.2.2.2 = 0 then (if ((r189.1 = 2) ↔ (p176 ≤ m_.tmod 1099511627766)) then (if ((r189.1 = 3) ↔ (p176 > ((m_.tmod 1099511627766 + 4) % 18446744073709551616))) then (if p176 > m_.tmod 1099511627766 then (if p176 ≤ ((m_.tmod 1099511627766 + 4) % 18446744073709551616) then (if p176.tmod 4 = 0 then (if ((r189.1 = 1) ↔ (s0_ = p176)) then (classwindow_J3 k177 p175 p176 r189) else (some false)) else (if p176.tmod 4 = 1 then (if ((r189.1 = 1) ↔ (s1_ = p176)) then (classwindow_J3 k177 p175 p176 r189) else (some false)) else (if p176.tmod 4 = 2 then (if ((r189.1 = 1) ↔ (s2_ = p176)) then (classwindow_J3 k177 p175 p176 r189) else (some false)) else (if p176.tmod 4 = 3 then (if ((r189.1 = 1) ↔ (s3_ = p176)) then (classwindow_J3 k177 p175 p176 r189) else (some false)) else (none))))) else (if ((r189.1 = 1) ↔ False) then (classwindow_J3 k177 p175 p176 r189) else (some false))) else (if ((r189.1 = 1) ↔ False) then (classwindow_J3 k177 p175 p176 r189) else (some false))) else (some false)) else (some false)) else (some false)) else (classwindow_J1 i_ g_ m_ s0_ s1_ s2_ s3_ p175)

def classwindow_M (i_ : Int) (g_ : Int) (m_ : Int) (s0_ : Int) (s1_ : Int) (s2_ : Int) (s3_ : Int) : Option (Bool) :=
  need (-9223372036854775808 ≤ i_ ∧ i_ ≤ 9223372036854775807) <|
need ((0 : Int) ≤ 0 ∧ (0 : Int) ≤ 255) <|
need ((0 : Int) ≤ 0 ∧ (0 : Int) ≤ 255) <|
need (0 ≤ (sessAt (i_.tmod 4)) ∧ (sessAt (i_.tmod 4)) < (((fmtW 1 (2 + 0 % 20) (2 + 0 % 60)).length) : Int)) <|
need (-9223372036854775808 ≤ ((sessAt (i_.tmod 4)) + 1) ∧ ((sessAt (i_.tmod 4)) + 1) ≤ 9223372036854775807) <|
need (0 ≤ ((sessAt (i_.tmod 4)) + 1) ∧ ((sessAt (i_.tmod 4)) + 1) < (((fmtW 1 (2 + 0 % 20) (2 + 0 % 60)).length) : Int)) <|
need (((sessAt (i_.tmod 4)) + 1).toNat < ((fmtW 1 (2 + 0 % 20) (2 + 0 % 60)).set ((sessAt (i_.tmod 4)).toNat) 1).length) <|
need (-9223372036854775808 ≤ ((sessAt (i_.tmod 4)) + 2) ∧ ((sessAt (i_.tmod 4)) + 2) ≤ 9223372036854775807) <|
need (0 ≤ ((sessAt (i_.tmod 4)) + 2) ∧ ((sessAt (i_.tmod 4)) + 2) < (((fmtW 1 (2 + 0 % 20) (2 + 0 % 60)).length) : Int)) <|
need (((sessAt (i_.tmod 4)) + 2).toNat < (((fmtW 1 (2 + 0 % 20) (2 + 0 % 60)).set ((sessAt (i_.tmod 4)).toNat) 1).set (((sessAt (i_.tmod 4)) + 1).toNat) g_).length) <|
need (0 ≤ (slotAt (i_.tmod 4) 0) ∧ (slotAt (i_.tmod 4) 0) < (((fmtW 1 (2 + 0 % 20) (2 + 0 % 60)).length) : Int)) <|
need ((slotAt (i_.tmod 4) 0).toNat < ((((fmtW 1 (2 + 0 % 20) (2 + 0 % 60)).set ((sessAt (i_.tmod 4)).toNat) 1).set (((sessAt (i_.tmod 4)) + 1).toNat) g_).set (((sessAt (i_.tmod 4)) + 2).toNat) (m_.tmod 1099511627766)).length) <|
need (0 ≤ (slotAt (i_.tmod 4) 1) ∧ (slotAt (i_.tmod 4) 1) < (((fmtW 1 (2 + 0 % 20) (2 + 0 % 60)).length) : Int)) <|
need ((slotAt (i_.tmod 4) 1).toNat < (((((fmtW 1 (2 + 0 % 20) (2 + 0 % 60)).set ((sessAt (i_.tmod 4)).toNat) 1).set (((sessAt (i_.tmod 4)) + 1).toNat) g_).set (((sessAt (i_.tmod 4)) + 2).toNat) (m_.tmod 1099511627766)).set ((slotAt (i_.tmod 4) 0).toNat) s0_).length) <|
need (0 ≤ (slotAt (i_.tmod 4) 2) ∧ (slotAt (i_.tmod 4) 2) < (((fmtW 1 (2 + 0 % 20) (2 + 0 % 60)).length) : Int)) <|
need ((slotAt (i_.tmod 4) 2).toNat < ((((((fmtW 1 (2 + 0 % 20) (2 + 0 % 60)).set ((sessAt (i_.tmod 4)).toNat) 1).set (((sessAt (i_.tmod 4)) + 1).toNat) g_).set (((sessAt (i_.tmod 4)) + 2).toNat) (m_.tmod 1099511627766)).set ((slotAt (i_.tmod 4) 0).toNat) s0_).set ((slotAt (i_.tmod 4) 1).toNat) s1_).length) <|
need (0 ≤ (slotAt (i_.tmod 4) 3) ∧ (slotAt (i_.tmod 4) 3) < (((fmtW 1 (2 + 0 % 20) (2 + 0 % 60)).length) : Int)) <|
need ((slotAt (i_.tmod 4) 3).toNat < (((((((fmtW 1 (2 + 0 % 20) (2 + 0 % 60)).set ((sessAt (i_.tmod 4)).toNat) 1).set (((sessAt (i_.tmod 4)) + 1).toNat) g_).set (((sessAt (i_.tmod 4)) + 2).toNat) (m_.tmod 1099511627766)).set ((slotAt (i_.tmod 4) 0).toNat) s0_).set ((slotAt (i_.tmod 4) 1).toNat) s1_).set ((slotAt (i_.tmod 4) 2).toNat) s2_).length) <|
need ((fmtW 1 (2 + 0 % 20) (2 + 0 % 60)).length = ((((((((fmtW 1 (2 + 0 % 20) (2 + 0 % 60)).set ((sessAt (i_.tmod 4)).toNat) 1).set (((sessAt (i_.tmod 4)) + 1).toNat) g_).set (((sessAt (i_.tmod 4)) + 2).toNat) (m_.tmod 1099511627766)).set ((slotAt (i_.tmod 4) 0).toNat) s0_).set ((slotAt (i_.tmod 4) 1).toNat) s1_).set ((slotAt (i_.tmod 4) 2).toNat) s2_).set ((slotAt (i_.tmod 4) 3).toNat) s3_).length) <|
need (((((((((fmtW 1 (2 + 0 % 20) (2 + 0 % 60)).set ((sessAt (i_.tmod 4)).toNat) 1).set (((sessAt (i_.tmod 4)) + 1).toNat) g_).set (((sessAt (i_.tmod 4)) + 2).toNat) (m_.tmod 1099511627766)).set ((slotAt (i_.tmod 4) 0).toNat) s0_).set ((slotAt (i_.tmod 4) 1).toNat) s1_).set ((slotAt (i_.tmod 4) 2).toNat) s2_).set ((slotAt (i_.tmod 4) 3).toNat) s3_).length ≤ 17592186044415) <|
(some (((mx (m_.tmod 1099511627766) 3) - 2) % 18446744073709551616)).bind fun r173 =>
iter (fun k_ s_ => classwindow_B1 i_ g_ m_ s0_ s1_ s2_ s3_ k_ s_.1 s_.2) FUEL (0, r173)

set_option maxRecDepth 20000 in
set_option maxHeartbeats 4000000 in
set_option linter.unusedVariables false in
theorem classwindow_walk {i_ : Int} {g_ : Int} {m_ : Int} {s0_ : Int} {s1_ : Int} {s2_ : Int} {s3_ : Int}   (B : Nat) (w : World) (hB : w.heap.size = B) (hL : CellsAt (some ⟨1, 0, none⟩) [(.int .i64 1), (.int .i64 2), (.int .i64 2)] w) (hm : classwindow_M i_ g_ m_ s0_ s1_ s2_ s3_ = some true) : Spec Tryd.prog 13 #[(.int .u8 i_), (.int .u64 g_), (.int .u64 m_), (.agg #[(.int .u64 s0_), (.int .u64 s1_), (.int .u64 s2_), (.int .u64 s3_)])] B w [] (fun v H' => v = .bool true ∧ H' = []) := by
  refine spec_Q Tryd.func13 rfl fun hs => ?_
  unfold classwindow_M at hm
  have hG2 : 1 < B := by rw [← hB]; exact lt_of_cells hL (v := .int .i64 1) rfl
  refine W.seq fun K1 hK1 => ?_
  refine W.region ?_
  refine ops_new (fun b => .pointer (some ⟨b, 0, none⟩)) (.cells [(.int .u64 s0_), (.int .u64 s1_), (.int .u64 s2_), (.int .u64 s3_)].toArray 101 (0, 0)) hs (by kernel_rfl) (fun b4 w2 hs3 => ?_)
  refine ops_run 1 (by kernel_rfl) ?_
  refine ops_done (by kernel_rfl) ?_
  refine hK1 _ _ ?_
  clear hK1
  refine W.seq fun K5 hK5 => ?_
  refine W.region ?_
  refine ops_run 1 (by kernel_rfl) ?_
  obtain ⟨h6, hm⟩ := need_some hm
  refine ops_val (v := .int .i64 (IntKind.i64.wrap i_)) (v' := .int .i64 i_) (by kernel_rfl) (congrArg (Value.int .i64) (wrap_i64 h6.1 h6.2)) ?_
  refine ops_run 2 (by kernel_rfl) ?_
  refine ops_done (by kernel_rfl) ?_
  refine hK5 _ _ ?_
  clear hK5
  refine W.seq fun K7 hK7 => ?_
  refine W.region ?_
  refine ops_run 3 (by kernel_rfl) ?_
  refine ops_done (by kernel_rfl) ?_
  refine hK7 _ _ ?_
  clear hK7
  refine W.seq fun K8 hK8 => ?_
  refine W.region ?_
  obtain ⟨h9, hm⟩ := need_some hm
  obtain ⟨h10, hm⟩ := need_some hm
  refine ops_call0 hs3 (by kernel_rfl) (small_spec (x_ := 0) (y_ := 0) (hx := h9) (hy := h10) B _) ?_
  rintro _ _ w11 ⟨rfl, rfl⟩ hs12
  have hs13 := St.ap0 hs12
  refine ops_call0 hs13 (by kernel_rfl) (format_spec (gw := 1) (gi := (2 + 0 % 20)) (gb := (2 + 0 % 60)) B _) ?_
  rintro _ _ w16 ⟨a14, c15, rfl, rfl⟩ hs17
  have hs18 := St.ap1 hs17
  refine ops_run 1 (by kernel_rfl) ?_
  refine ops_done (by kernel_rfl) ?_
  refine hK8 _ _ ?_
  clear hK8
  refine W.seq fun K19 hK19 => ?_
  refine W.region ?_
  refine ops_run 1 (by kernel_rfl) ?_
  refine ops_call0 hs18 (by kernel_rfl) (rsess_spec (i_ := i_.tmod 4) B _) ?_
  rintro _ _ w20 ⟨rfl, rfl⟩ hs21
  have hs22 := St.ap0 hs21
  refine ops_run 1 (by kernel_rfl) ?_
  refine ops_done (by kernel_rfl) ?_
  refine hK19 _ _ ?_
  clear hK19
  refine W.seq fun K23 hK23 => ?_
  refine W.region ?_
  refine ops_run 2 (by kernel_rfl) ?_
  obtain ⟨h25, hm⟩ := need_some hm
  have hk24 := lt_toNat h25
  refine ops_R (runs_index (a := a14) (n := (fmtW 1 (2 + 0 % 20) (2 + 0 % 60)).length) (z := (sessAt (i_.tmod 4))) (size := 1) ((sessAt (i_.tmod 4)).toNat) (nat_of h25.1) hk24 (kU64.addr (St.kcells kU64 hs22 0 rfl) hk24) (by kernel_rfl)) ?_
  refine ops_storeK kU64 (j := 0) (vs := [(.int .u64 1)]) 0 1 hs22 hk24 (Nat.le_of_ble_eq_true rfl) (by simp) rfl rfl (by kernel_rfl) (fun w26 hs27 => ?_)
  refine ops_done (by kernel_rfl) ?_
  refine hK23 _ _ ?_
  clear hK23
  refine W.seq fun K29 hK29 => ?_
  refine W.region ?_
  refine ops_run 2 (by kernel_rfl) ?_
  obtain ⟨h30, hm⟩ := need_some hm
  refine ops_val (v := .int .i64 (IntKind.i64.wrap ((sessAt (i_.tmod 4)) + 1))) (v' := .int .i64 ((sessAt (i_.tmod 4)) + 1)) (by kernel_rfl) (congrArg (Value.int .i64) (wrap_i64 h30.1 h30.2)) ?_
  refine ops_run 1 (by kernel_rfl) ?_
  obtain ⟨h32, hm⟩ := need_some hm
  have hk31 := lt_toNat h32
  obtain ⟨h34, hm⟩ := need_some hm
  have hk33 := h34
  refine ops_R (runs_index (a := a14) (n := (fmtW 1 (2 + 0 % 20) (2 + 0 % 60)).length) (z := ((sessAt (i_.tmod 4)) + 1)) (size := 1) (((sessAt (i_.tmod 4)) + 1).toNat) (nat_of h32.1) hk31 (kU64.addr (St.kcells kU64 hs27 0 rfl) hk33) (by kernel_rfl)) ?_
  refine ops_storeK kU64 (j := 0) (vs := [(.int .u64 g_)]) 0 g_ hs27 hk33 (Nat.le_of_ble_eq_true rfl) (by simp) rfl rfl (by kernel_rfl) (fun w35 hs36 => ?_)
  refine ops_done (by kernel_rfl) ?_
  refine hK29 _ _ ?_
  clear hK29
  refine W.seq fun K38 hK38 => ?_
  refine W.region ?_
  refine ops_run 2 (by kernel_rfl) ?_
  obtain ⟨h39, hm⟩ := need_some hm
  refine ops_val (v := .int .i64 (IntKind.i64.wrap ((sessAt (i_.tmod 4)) + 2))) (v' := .int .i64 ((sessAt (i_.tmod 4)) + 2)) (by kernel_rfl) (congrArg (Value.int .i64) (wrap_i64 h39.1 h39.2)) ?_
  refine ops_run 1 (by kernel_rfl) ?_
  obtain ⟨h41, hm⟩ := need_some hm
  have hk40 := lt_toNat h41
  obtain ⟨h43, hm⟩ := need_some hm
  have hk42 := h43
  refine ops_R (runs_index (a := a14) (n := (fmtW 1 (2 + 0 % 20) (2 + 0 % 60)).length) (z := ((sessAt (i_.tmod 4)) + 2)) (size := 1) (((sessAt (i_.tmod 4)) + 2).toNat) (nat_of h41.1) hk40 (kU64.addr (St.kcells kU64 hs36 0 rfl) hk42) (by kernel_rfl)) ?_
  refine ops_storeK kU64 (j := 0) (vs := [(.int .u64 (m_.tmod 1099511627766))]) 0 (m_.tmod 1099511627766) hs36 hk42 (Nat.le_of_ble_eq_true rfl) (by simp) rfl rfl (by kernel_rfl) (fun w44 hs45 => ?_)
  refine ops_done (by kernel_rfl) ?_
  refine hK38 _ _ ?_
  clear hK38
  refine W.seq fun K47 hK47 => ?_
  refine W.seq fun K48 hK48 => ?_
  refine W.region ?_
  refine ops_run 1 (by kernel_rfl) ?_
  refine ops_done (by kernel_rfl) ?_
  refine hK48 _ _ ?_
  clear hK48
  refine W.block ?_
  refine W.loop_start ?_
  refine loopAt_round ?_
  refine W.seq fun K49 hK49 => ?_
  refine W.seq fun K50 hK50 => ?_
  refine W.region ?_
  refine ops_run 2 (by kernel_rfl) ?_
  refine ops_done (by kernel_rfl) ?_
  refine hK50 _ _ ?_
  clear hK50
  refine W.cond_true true (by kernel_rfl) rfl ?_
  refine W.skip ?_
  refine hK49 _ _ ?_
  clear hK49
  refine W.seq fun K51 hK51 => ?_
  refine W.block ?_
  have hs52 := hs45.drew
  have hs53 := St.f1 hs52
  have hs54 := St.tk1 hs53
  refine W.regionD [(0, 0), (0, 0), (0, 0), (6, 6), (0, 0), (16, 16), (32, 32), (127, 9), (255, 192)] (fun w_ => St B w [] w_ [blk b4 (.cells [(.int .u64 s0_), (.int .u64 s1_), (.int .u64 s2_), (.int .u64 s3_)].toArray 101 (0, 0))]) (by kernel_rfl) hs54 ?_
  refine any_val (v := (.slice a14 ((fmtW 1 (2 + 0 % 20) (2 + 0 % 60)).length) c15)) (v' := (.slice a14 ((fmtW 1 (2 + 0 % 20) (2 + 0 % 60)).length) c15)) 0 (by kernel_rfl) (fun _ => by kernel_rfl) rfl hs54 ?_
  refine any_val (v := (.int .i64 (i_.tmod 4))) (v' := (.int .i64 (i_.tmod 4))) 1 (by kernel_rfl) (fun _ => by kernel_rfl) rfl hs54 ?_
  refine any_val (v := (.int .i64 0)) (v' := (.int .i64 0)) 2 (by kernel_rfl) (fun _ => by kernel_rfl) rfl hs54 ?_
  refine any_val (v := (.int .i64 0)) (v' := (.int .i64 0)) 4 (by kernel_rfl) (fun _ => by kernel_rfl) rfl hs54 ?_
  refine any_val (v := (.pointer (some ⟨b4, 0, none⟩))) (v' := (.pointer (some ⟨b4, 0, none⟩))) 5 (by kernel_rfl) (fun _ => by kernel_rfl) rfl hs54 ?_
  refine any_R 6 (by kernel_rfl) (fun _ hS_ => runs_load (ad := ⟨b4, 0, none⟩) (v := (.int .u64 s0_)) (by kernel_rfl) (hS_.cellAt 0 rfl rfl)) hs54 ?_
  refine any_step 3 (by kernel_rfl) (by kernel_rfl) ?_
  refine ops_call0 hs52 (by kernel_rfl) (rslotat_spec (i_ := i_.tmod 4) (k_ := 0) B _) ?_
  rintro _ _ w55 ⟨rfl, rfl⟩ hs56
  have hs57 := St.ap0 hs56
  have hs58 := St.f1 hs57
  have hs59 := St.tk1 hs58
  refine ops_done (by kernel_rfl) ⟨hs59, ?_⟩
  obtain ⟨h61, hm⟩ := need_some hm
  have hk60 := lt_toNat h61
  obtain ⟨h63, hm⟩ := need_some hm
  have hk62 := h63
  refine any_R 7 (by kernel_rfl) (fun _ hS_ => runs_index (a := a14) (n := (fmtW 1 (2 + 0 % 20) (2 + 0 % 60)).length) (z := (slotAt (i_.tmod 4) 0)) (size := 1) ((slotAt (i_.tmod 4) 0).toNat) (nat_of h61.1) hk60 (kU64.addr (St.kcells kU64 hs57 0 rfl) hk62) (by kernel_rfl)) hs59 ?_
  refine any_step 8 (by kernel_rfl) (by kernel_rfl) ?_
  refine ops_storeK kU64 (j := 0) (vs := [(.int .u64 s0_)]) 0 s0_ hs57 hk62 (Nat.le_of_ble_eq_true rfl) (by simp) rfl rfl (by kernel_rfl) (fun w64 hs65 => ?_)
  have hs67 := St.f1 hs65
  have hs68 := St.tk1 hs67
  refine ops_done (by kernel_rfl) ⟨hs68, ?_⟩
  refine any_done (by kernel_rfl) ?_
  refine normal_block ?_
  refine hK51 _ _ ?_
  clear hK51
  refine W.region ?_
  refine ops_run 3 (by kernel_rfl) ?_
  refine ops_done (by kernel_rfl) ?_
  refine loopAt_next ?_
  refine loopAt_round ?_
  refine W.seq fun K69 hK69 => ?_
  refine W.seq fun K70 hK70 => ?_
  refine W.region ?_
  refine ops_run 2 (by kernel_rfl) ?_
  refine ops_done (by kernel_rfl) ?_
  refine hK70 _ _ ?_
  clear hK70
  refine W.cond_true true (by kernel_rfl) rfl ?_
  refine W.skip ?_
  refine hK69 _ _ ?_
  clear hK69
  refine W.seq fun K71 hK71 => ?_
  refine W.block ?_
  have hs72 := hs65.drew
  have hs73 := St.f1 hs72
  have hs74 := St.tk1 hs73
  refine W.regionD [(0, 0), (0, 0), (0, 0), (6, 6), (0, 0), (16, 16), (32, 32), (127, 9), (255, 192)] (fun w_ => St B w [] w_ [blk b4 (.cells [(.int .u64 s0_), (.int .u64 s1_), (.int .u64 s2_), (.int .u64 s3_)].toArray 101 (0, 0))]) (by kernel_rfl) hs74 ?_
  refine any_val (v := (.slice a14 ((fmtW 1 (2 + 0 % 20) (2 + 0 % 60)).length) c15)) (v' := (.slice a14 ((fmtW 1 (2 + 0 % 20) (2 + 0 % 60)).length) c15)) 0 (by kernel_rfl) (fun _ => by kernel_rfl) rfl hs74 ?_
  refine any_val (v := (.int .i64 (i_.tmod 4))) (v' := (.int .i64 (i_.tmod 4))) 1 (by kernel_rfl) (fun _ => by kernel_rfl) rfl hs74 ?_
  refine any_val (v := (.int .i64 1)) (v' := (.int .i64 1)) 2 (by kernel_rfl) (fun _ => by kernel_rfl) rfl hs74 ?_
  refine any_val (v := (.int .i64 1)) (v' := (.int .i64 1)) 4 (by kernel_rfl) (fun _ => by kernel_rfl) rfl hs74 ?_
  refine any_val (v := (.pointer (some ⟨b4, 1, none⟩))) (v' := (.pointer (some ⟨b4, 1, none⟩))) 5 (by kernel_rfl) (fun _ => by kernel_rfl) rfl hs74 ?_
  refine any_R 6 (by kernel_rfl) (fun _ hS_ => runs_load (ad := ⟨b4, 1, none⟩) (v := (.int .u64 s1_)) (by kernel_rfl) (hS_.cellAt 0 rfl rfl)) hs74 ?_
  refine any_step 3 (by kernel_rfl) (by kernel_rfl) ?_
  refine ops_call0 hs72 (by kernel_rfl) (rslotat_spec (i_ := i_.tmod 4) (k_ := 1) B _) ?_
  rintro _ _ w75 ⟨rfl, rfl⟩ hs76
  have hs77 := St.ap0 hs76
  have hs78 := St.f1 hs77
  have hs79 := St.tk1 hs78
  refine ops_done (by kernel_rfl) ⟨hs79, ?_⟩
  obtain ⟨h81, hm⟩ := need_some hm
  have hk80 := lt_toNat h81
  obtain ⟨h83, hm⟩ := need_some hm
  have hk82 := h83
  refine any_R 7 (by kernel_rfl) (fun _ hS_ => runs_index (a := a14) (n := (fmtW 1 (2 + 0 % 20) (2 + 0 % 60)).length) (z := (slotAt (i_.tmod 4) 1)) (size := 1) ((slotAt (i_.tmod 4) 1).toNat) (nat_of h81.1) hk80 (kU64.addr (St.kcells kU64 hs77 0 rfl) hk82) (by kernel_rfl)) hs79 ?_
  refine any_step 8 (by kernel_rfl) (by kernel_rfl) ?_
  refine ops_storeK kU64 (j := 0) (vs := [(.int .u64 s1_)]) 0 s1_ hs77 hk82 (Nat.le_of_ble_eq_true rfl) (by simp) rfl rfl (by kernel_rfl) (fun w84 hs85 => ?_)
  have hs87 := St.f1 hs85
  have hs88 := St.tk1 hs87
  refine ops_done (by kernel_rfl) ⟨hs88, ?_⟩
  refine any_done (by kernel_rfl) ?_
  refine normal_block ?_
  refine hK71 _ _ ?_
  clear hK71
  refine W.region ?_
  refine ops_run 3 (by kernel_rfl) ?_
  refine ops_done (by kernel_rfl) ?_
  refine loopAt_next ?_
  refine loopAt_round ?_
  refine W.seq fun K89 hK89 => ?_
  refine W.seq fun K90 hK90 => ?_
  refine W.region ?_
  refine ops_run 2 (by kernel_rfl) ?_
  refine ops_done (by kernel_rfl) ?_
  refine hK90 _ _ ?_
  clear hK90
  refine W.cond_true true (by kernel_rfl) rfl ?_
  refine W.skip ?_
  refine hK89 _ _ ?_
  clear hK89
  refine W.seq fun K91 hK91 => ?_
  refine W.block ?_
  have hs92 := hs85.drew
  have hs93 := St.f1 hs92
  have hs94 := St.tk1 hs93
  refine W.regionD [(0, 0), (0, 0), (0, 0), (6, 6), (0, 0), (16, 16), (32, 32), (127, 9), (255, 192)] (fun w_ => St B w [] w_ [blk b4 (.cells [(.int .u64 s0_), (.int .u64 s1_), (.int .u64 s2_), (.int .u64 s3_)].toArray 101 (0, 0))]) (by kernel_rfl) hs94 ?_
  refine any_val (v := (.slice a14 ((fmtW 1 (2 + 0 % 20) (2 + 0 % 60)).length) c15)) (v' := (.slice a14 ((fmtW 1 (2 + 0 % 20) (2 + 0 % 60)).length) c15)) 0 (by kernel_rfl) (fun _ => by kernel_rfl) rfl hs94 ?_
  refine any_val (v := (.int .i64 (i_.tmod 4))) (v' := (.int .i64 (i_.tmod 4))) 1 (by kernel_rfl) (fun _ => by kernel_rfl) rfl hs94 ?_
  refine any_val (v := (.int .i64 2)) (v' := (.int .i64 2)) 2 (by kernel_rfl) (fun _ => by kernel_rfl) rfl hs94 ?_
  refine any_val (v := (.int .i64 2)) (v' := (.int .i64 2)) 4 (by kernel_rfl) (fun _ => by kernel_rfl) rfl hs94 ?_
  refine any_val (v := (.pointer (some ⟨b4, 2, none⟩))) (v' := (.pointer (some ⟨b4, 2, none⟩))) 5 (by kernel_rfl) (fun _ => by kernel_rfl) rfl hs94 ?_
  refine any_R 6 (by kernel_rfl) (fun _ hS_ => runs_load (ad := ⟨b4, 2, none⟩) (v := (.int .u64 s2_)) (by kernel_rfl) (hS_.cellAt 0 rfl rfl)) hs94 ?_
  refine any_step 3 (by kernel_rfl) (by kernel_rfl) ?_
  refine ops_call0 hs92 (by kernel_rfl) (rslotat_spec (i_ := i_.tmod 4) (k_ := 2) B _) ?_
  rintro _ _ w95 ⟨rfl, rfl⟩ hs96
  have hs97 := St.ap0 hs96
  have hs98 := St.f1 hs97
  have hs99 := St.tk1 hs98
  refine ops_done (by kernel_rfl) ⟨hs99, ?_⟩
  obtain ⟨h101, hm⟩ := need_some hm
  have hk100 := lt_toNat h101
  obtain ⟨h103, hm⟩ := need_some hm
  have hk102 := h103
  refine any_R 7 (by kernel_rfl) (fun _ hS_ => runs_index (a := a14) (n := (fmtW 1 (2 + 0 % 20) (2 + 0 % 60)).length) (z := (slotAt (i_.tmod 4) 2)) (size := 1) ((slotAt (i_.tmod 4) 2).toNat) (nat_of h101.1) hk100 (kU64.addr (St.kcells kU64 hs97 0 rfl) hk102) (by kernel_rfl)) hs99 ?_
  refine any_step 8 (by kernel_rfl) (by kernel_rfl) ?_
  refine ops_storeK kU64 (j := 0) (vs := [(.int .u64 s2_)]) 0 s2_ hs97 hk102 (Nat.le_of_ble_eq_true rfl) (by simp) rfl rfl (by kernel_rfl) (fun w104 hs105 => ?_)
  have hs107 := St.f1 hs105
  have hs108 := St.tk1 hs107
  refine ops_done (by kernel_rfl) ⟨hs108, ?_⟩
  refine any_done (by kernel_rfl) ?_
  refine normal_block ?_
  refine hK91 _ _ ?_
  clear hK91
  refine W.region ?_
  refine ops_run 3 (by kernel_rfl) ?_
  refine ops_done (by kernel_rfl) ?_
  refine loopAt_next ?_
  refine loopAt_round ?_
  refine W.seq fun K109 hK109 => ?_
  refine W.seq fun K110 hK110 => ?_
  refine W.region ?_
  refine ops_run 2 (by kernel_rfl) ?_
  refine ops_done (by kernel_rfl) ?_
  refine hK110 _ _ ?_
  clear hK110
  refine W.cond_true true (by kernel_rfl) rfl ?_
  refine W.skip ?_
  refine hK109 _ _ ?_
  clear hK109
  refine W.seq fun K111 hK111 => ?_
  refine W.block ?_
  have hs112 := hs105.drew
  have hs113 := St.f1 hs112
  have hs114 := St.tk1 hs113
  refine W.regionD [(0, 0), (0, 0), (0, 0), (6, 6), (0, 0), (16, 16), (32, 32), (127, 9), (255, 192)] (fun w_ => St B w [] w_ [blk b4 (.cells [(.int .u64 s0_), (.int .u64 s1_), (.int .u64 s2_), (.int .u64 s3_)].toArray 101 (0, 0))]) (by kernel_rfl) hs114 ?_
  refine any_val (v := (.slice a14 ((fmtW 1 (2 + 0 % 20) (2 + 0 % 60)).length) c15)) (v' := (.slice a14 ((fmtW 1 (2 + 0 % 20) (2 + 0 % 60)).length) c15)) 0 (by kernel_rfl) (fun _ => by kernel_rfl) rfl hs114 ?_
  refine any_val (v := (.int .i64 (i_.tmod 4))) (v' := (.int .i64 (i_.tmod 4))) 1 (by kernel_rfl) (fun _ => by kernel_rfl) rfl hs114 ?_
  refine any_val (v := (.int .i64 3)) (v' := (.int .i64 3)) 2 (by kernel_rfl) (fun _ => by kernel_rfl) rfl hs114 ?_
  refine any_val (v := (.int .i64 3)) (v' := (.int .i64 3)) 4 (by kernel_rfl) (fun _ => by kernel_rfl) rfl hs114 ?_
  refine any_val (v := (.pointer (some ⟨b4, 3, none⟩))) (v' := (.pointer (some ⟨b4, 3, none⟩))) 5 (by kernel_rfl) (fun _ => by kernel_rfl) rfl hs114 ?_
  refine any_R 6 (by kernel_rfl) (fun _ hS_ => runs_load (ad := ⟨b4, 3, none⟩) (v := (.int .u64 s3_)) (by kernel_rfl) (hS_.cellAt 0 rfl rfl)) hs114 ?_
  refine any_step 3 (by kernel_rfl) (by kernel_rfl) ?_
  refine ops_call0 hs112 (by kernel_rfl) (rslotat_spec (i_ := i_.tmod 4) (k_ := 3) B _) ?_
  rintro _ _ w115 ⟨rfl, rfl⟩ hs116
  have hs117 := St.ap0 hs116
  have hs118 := St.f1 hs117
  have hs119 := St.tk1 hs118
  refine ops_done (by kernel_rfl) ⟨hs119, ?_⟩
  obtain ⟨h121, hm⟩ := need_some hm
  have hk120 := lt_toNat h121
  obtain ⟨h123, hm⟩ := need_some hm
  have hk122 := h123
  refine any_R 7 (by kernel_rfl) (fun _ hS_ => runs_index (a := a14) (n := (fmtW 1 (2 + 0 % 20) (2 + 0 % 60)).length) (z := (slotAt (i_.tmod 4) 3)) (size := 1) ((slotAt (i_.tmod 4) 3).toNat) (nat_of h121.1) hk120 (kU64.addr (St.kcells kU64 hs117 0 rfl) hk122) (by kernel_rfl)) hs119 ?_
  refine any_step 8 (by kernel_rfl) (by kernel_rfl) ?_
  refine ops_storeK kU64 (j := 0) (vs := [(.int .u64 s3_)]) 0 s3_ hs117 hk122 (Nat.le_of_ble_eq_true rfl) (by simp) rfl rfl (by kernel_rfl) (fun w124 hs125 => ?_)
  have hs127 := St.f1 hs125
  have hs128 := St.tk1 hs127
  refine ops_done (by kernel_rfl) ⟨hs128, ?_⟩
  refine any_done (by kernel_rfl) ?_
  refine normal_block ?_
  refine hK111 _ _ ?_
  clear hK111
  refine W.region ?_
  refine ops_run 3 (by kernel_rfl) ?_
  refine ops_done (by kernel_rfl) ?_
  refine loopAt_next ?_
  refine loopAt_round ?_
  refine W.seq fun K129 hK129 => ?_
  refine W.seq fun K130 hK130 => ?_
  refine W.region ?_
  refine ops_run 2 (by kernel_rfl) ?_
  refine ops_done (by kernel_rfl) ?_
  refine hK130 _ _ ?_
  clear hK130
  refine W.cond_false false (by kernel_rfl) rfl ?_
  refine W.exit (exit_seq (exit_seq (exit_here ?_)))
  refine hK47 _ _ ?_
  clear hK47
  refine W.seq fun K131 hK131 => ?_
  refine W.region ?_
  refine ops_run 1 (by kernel_rfl) ?_
  obtain ⟨h132, hm⟩ := need_some hm
  refine ops_set 56 (v := (.slice a14 (((((((((fmtW 1 (2 + 0 % 20) (2 + 0 % 60)).set ((sessAt (i_.tmod 4)).toNat) 1).set (((sessAt (i_.tmod 4)) + 1).toNat) g_).set (((sessAt (i_.tmod 4)) + 2).toNat) (m_.tmod 1099511627766)).set ((slotAt (i_.tmod 4) 0).toNat) s0_).set ((slotAt (i_.tmod 4) 1).toNat) s1_).set ((slotAt (i_.tmod 4) 2).toNat) s2_).set ((slotAt (i_.tmod 4) 3).toNat) s3_).length) c15)) (Eq.trans (by kernel_rfl) (congrArg (fun n_ => Value.slice a14 n_ c15) h132)) ?_
  obtain ⟨h134, hm⟩ := need_some hm
  refine ops_call0 hs125 (by kernel_rfl) (new_spec (hc := (St.kcells kU64 hs125 0 rfl)) (hn := (St.capnil kU64 hs125 0 rfl)) (hsz := h134) B _) ?_
  rintro _ _ w135 ⟨b133, rfl, rfl⟩ hs136
  have hs137 := St.ap1 hs136
  refine ops_run 1 (by kernel_rfl) ?_
  refine ops_done (by kernel_rfl) ?_
  refine hK131 _ _ ?_
  clear hK131
  refine W.seq fun K138 hK138 => ?_
  refine W.seq fun K139 hK139 => ?_
  refine W.region ?_
  refine ops_run 2 (by kernel_rfl) ?_
  refine ops_done (by kernel_rfl) ?_
  refine hK139 _ _ ?_
  clear hK139
  refine W.cond_false false (by kernel_rfl) rfl ?_
  refine W.skip ?_
  refine hK138 _ _ ?_
  clear hK138
  refine W.seq fun K140 hK140 => ?_
  refine W.region ?_
  refine ops_run 1 (by kernel_rfl) ?_
  refine ops_done (by kernel_rfl) ?_
  refine hK140 _ _ ?_
  clear hK140
  refine W.seq_join (fun s_ w_ => ∃ (p141 : Int), (∃ us, s_ = slots 153 [(1, (.int .u64 g_)), (2, (.int .u64 (m_.tmod 1099511627766))), (9, (.int .i64 (i_.tmod 4))), (13, (.pointer (some ⟨b133, 0, none⟩))), (14, (.int .i64 p141))] us) ∧ St B w [] w_ [viewA (ptr b133) ((((((((fmtW 1 (2 + 0 % 20) (2 + 0 % 60)).set ((sessAt (i_.tmod 4)).toNat) 1).set (((sessAt (i_.tmod 4)) + 1).toNat) g_).set (((sessAt (i_.tmod 4)) + 2).toNat) (m_.tmod 1099511627766)).set ((slotAt (i_.tmod 4) 0).toNat) s0_).set ((slotAt (i_.tmod 4) 1).toNat) s1_).set ((slotAt (i_.tmod 4) 2).toNat) s2_).set ((slotAt (i_.tmod 4) 3).toNat) s3_) ([]), kU64.row a14 c15 ((((((((fmtW 1 (2 + 0 % 20) (2 + 0 % 60)).set ((sessAt (i_.tmod 4)).toNat) 1).set (((sessAt (i_.tmod 4)) + 1).toNat) g_).set (((sessAt (i_.tmod 4)) + 2).toNat) (m_.tmod 1099511627766)).set ((slotAt (i_.tmod 4) 0).toNat) s0_).set ((slotAt (i_.tmod 4) 1).toNat) s1_).set ((slotAt (i_.tmod 4) 2).toNat) s2_).set ((slotAt (i_.tmod 4) 3).toNat) s3_), blk b4 (.cells [(.int .u64 s0_), (.int .u64 s1_), (.int .u64 s2_), (.int .u64 s3_)].toArray 101 (0, 0))] ∧ classwindow_J1 i_ g_ m_ s0_ s1_ s2_ s3_ p141 = some true) ?_ ?_
  ·
    rintro _ w142 ⟨p141, ⟨us, rfl⟩, hs143, hm⟩
    unfold classwindow_J1 at hm
    refine W.seq fun K144 hK144 => ?_
    refine W.region ?_
    refine ops_run 3 (by kernel_rfl) ?_
    refine ops_val (v := .int .u64 (IntKind.u64.wrap (g_ + 1))) (v' := .int .u64 ((g_ + 1) % 18446744073709551616)) (by kernel_rfl) (congrArg (Value.int .u64) (wrap_u64_mod _)) ?_
    refine ops_run 1 (by kernel_rfl) ?_
    refine ops_val (v := .int .u64 (IntKind.u64.wrap (m_.tmod 1099511627766 + 1))) (v' := .int .u64 ((m_.tmod 1099511627766 + 1) % 18446744073709551616)) (by kernel_rfl) (congrArg (Value.int .u64) (wrap_u64_mod _)) ?_
    obtain ⟨r145, h146, hm⟩ := bind_some hm
    refine ops_call0 hs143 (by kernel_rfl) (cof_walk (i_ := i_.tmod 4) (g_ := ((g_ + 1) % 18446744073709551616)) (q_ := ((m_.tmod 1099511627766 + 1) % 18446744073709551616)) (img := ((((((((fmtW 1 (2 + 0 % 20) (2 + 0 % 60)).set ((sessAt (i_.tmod 4)).toNat) 1).set (((sessAt (i_.tmod 4)) + 1).toNat) g_).set (((sessAt (i_.tmod 4)) + 2).toNat) (m_.tmod 1099511627766)).set ((slotAt (i_.tmod 4) 0).toNat) s0_).set ((slotAt (i_.tmod 4) 1).toNat) s1_).set ((slotAt (i_.tmod 4) 2).toNat) s2_).set ((slotAt (i_.tmod 4) 3).toNat) s3_)) (l := []) (hL := (hs143.oldCells hL)) (hv := (hs143.entAt 0 rfl viewA_at)) (hm := h146) B _) ?_
    rintro _ _ w147 ⟨rfl, rfl⟩ hs148
    have hs149 := St.ap0 hs148
    refine ops_run 4 (by kernel_rfl) ?_
    refine ops_new (fun b => .pointer (some ⟨b, 0, none⟩)) (.cells [(.int .i64 0), (.int .u64 0), (.int .u64 0), (.string ByteArray.empty)].toArray 46 (0, 0)) hs149 (by kernel_rfl) (fun b152 w150 hs151 => ?_)
    refine ops_run 1 (by kernel_rfl) ?_
    refine ops_store (off := 0) (cs := [(.int .i64 0), (.int .u64 0), (.int .u64 0), (.string ByteArray.empty)]) (vs := [(.int .i64 r145.2.1), (.int .u64 r145.2.2.1), (.int .u64 r145.2.2.2.1), (.string r145.2.2.2.2.1)]) hs151 (by kernel_rfl) (by simp) rfl (fun w153 hs154 => ?_)
    have hs155 : St B w [] w153 [blk b152 (.cells [(.int .i64 r145.2.1), (.int .u64 r145.2.2.1), (.int .u64 r145.2.2.2.1), (.string r145.2.2.2.2.1)].toArray 46 (0, 0)), viewA (ptr b133) ((((((((fmtW 1 (2 + 0 % 20) (2 + 0 % 60)).set ((sessAt (i_.tmod 4)).toNat) 1).set (((sessAt (i_.tmod 4)) + 1).toNat) g_).set (((sessAt (i_.tmod 4)) + 2).toNat) (m_.tmod 1099511627766)).set ((slotAt (i_.tmod 4) 0).toNat) s0_).set ((slotAt (i_.tmod 4) 1).toNat) s1_).set ((slotAt (i_.tmod 4) 2).toNat) s2_).set ((slotAt (i_.tmod 4) 3).toNat) s3_) ([]), kU64.row a14 c15 ((((((((fmtW 1 (2 + 0 % 20) (2 + 0 % 60)).set ((sessAt (i_.tmod 4)).toNat) 1).set (((sessAt (i_.tmod 4)) + 1).toNat) g_).set (((sessAt (i_.tmod 4)) + 2).toNat) (m_.tmod 1099511627766)).set ((slotAt (i_.tmod 4) 0).toNat) s0_).set ((slotAt (i_.tmod 4) 1).toNat) s1_).set ((slotAt (i_.tmod 4) 2).toNat) s2_).set ((slotAt (i_.tmod 4) 3).toNat) s3_), blk b4 (.cells [(.int .u64 s0_), (.int .u64 s1_), (.int .u64 s2_), (.int .u64 s3_)].toArray 101 (0, 0))] := hs154
    refine ops_run 1 (by kernel_rfl) ?_
    refine ops_done (by kernel_rfl) ?_
    refine hK144 _ _ ?_
    clear hK144
    refine W.seq fun K156 hK156 => ?_
    refine W.region ?_
    refine ops_run 3 (by kernel_rfl) ?_
    rcases Bool.eq_false_or_eq_true (decide (p141 = 4)) with h157 | h157
    ·
      have h157p : p141 = 4 := of_decide_eq_true h157
      replace hm := ite_yes hm h157p
      refine ops_set 140 (v := .bool true) (eq_bool_of (by kernel_rfl) h157) ?_
      refine ops_set 139 (v := .bool true) (eq_bool_of (by kernel_rfl) h157) ?_
      refine ops_run 4 (by kernel_rfl) ?_
      rcases Bool.eq_false_or_eq_true (decide (r145.2.2.2.2.2 = 22)) with h158 | h158
      ·
        have h158p : r145.2.2.2.2.2 = 22 := of_decide_eq_true h158
        replace hm := ite_yes hm h158p
        refine ops_set 144 (v := .bool true) (eq_bool_of (by kernel_rfl) h158) ?_
        refine ops_set 142 (v := .bool true) (eq_bool_of (by kernel_rfl) h158) ?_
        refine ops_set 143 (v := .bool true) (eq_bool_of (by kernel_rfl) h158) ?_
        refine ops_run 1 (by kernel_rfl) ?_
        refine ops_call0 hs155 (by kernel_rfl) (writes_spec (hv := (hs155.entAt 1 rfl viewA_at)) B _) ?_
        rintro _ _ w161 ⟨a159, c160, rfl, rfl⟩ hs162
        have hs163 := St.ap1 hs162
        refine ops_run 4 (by kernel_rfl) ?_
        obtain ⟨r164, h165, hm⟩ := bind_some hm
        refine ops_call0 hs163 (by kernel_rfl) (works11_walk (hG2 := hG2) (hL := (hs163.oldCells hL)) (hm := h165) B _) ?_
        rintro _ _ w166 ⟨rfl, rfl⟩ hs167
        have hs168 := St.ap0 hs167
        refine ops_run 2 (by kernel_rfl) ?_
        refine ops_done (by kernel_rfl) ?_
        refine hK156 _ _ ?_
        clear hK156
        refine W.ret ?_
        have hs169 := St.tk0 hs168
        refine ret_of (.bool r164) (by kernel_rfl) ⟨_, ⟨congrArg Value.bool (some_inj hm), rfl⟩, hs169⟩
      ·
        have h158p : ¬ (r145.2.2.2.2.2 = 22) := of_decide_eq_false h158
        replace hm := ite_no hm h158p
        refine ops_set 144 (v := .bool false) (eq_bool_of (by kernel_rfl) h158) ?_
        refine ops_set 142 (v := .bool false) (eq_bool_of (by kernel_rfl) h158) ?_
        refine ops_set 143 (v := .bool false) (eq_bool_of (by kernel_rfl) h158) ?_
        refine ops_run 9 (by kernel_rfl) ?_
        refine ops_done (by kernel_rfl) ?_
        refine hK156 _ _ ?_
        clear hK156
        refine W.ret ?_
        have hs170 := St.tk0 hs155
        refine ret_of (.bool false) (by kernel_rfl) ⟨_, ⟨congrArg Value.bool (some_inj hm), rfl⟩, hs170⟩
    ·
      have h157p : ¬ (p141 = 4) := of_decide_eq_false h157
      replace hm := ite_no hm h157p
      refine ops_set 140 (v := .bool false) (eq_bool_of (by kernel_rfl) h157) ?_
      refine ops_set 139 (v := .bool false) (eq_bool_of (by kernel_rfl) h157) ?_
      refine ops_run 13 (by kernel_rfl) ?_
      refine ops_done (by kernel_rfl) ?_
      refine hK156 _ _ ?_
      clear hK156
      refine W.ret ?_
      have hs171 := St.tk0 hs155
      refine ret_of (.bool false) (by kernel_rfl) ⟨_, ⟨congrArg Value.bool (some_inj hm), rfl⟩, hs171⟩
  ·
    refine W.seq fun K172 hK172 => ?_
    refine W.region ?_
    refine ops_run 2 (by kernel_rfl) ?_
    refine ops_val (v := .int .u64 (IntKind.u64.wrap ((mx (m_.tmod 1099511627766) 3) - 2))) (v' := .int .u64 (((mx (m_.tmod 1099511627766) 3) - 2) % 18446744073709551616)) (by kernel_rfl) (congrArg (Value.int .u64) (wrap_u64_mod _)) ?_
    refine ops_run 1 (by kernel_rfl) ?_
    obtain ⟨r173, h174, hm⟩ := bind_some hm
    replace h174 := some_inj h174
    refine ops_set 15 (v := .int .u64 r173) (Eq.trans (by kernel_rfl) (congrArg (Value.int .u64) h174)) ?_
    refine ops_done (by kernel_rfl) ?_
    refine hK172 _ _ ?_
    clear hK172
    refine W.block ?_
    have hs181 := St.f1 hs137
    have hs182 := St.f1 hs181
    have hs183 := St.f2 hs182
    refine W.loop_iter (G := Int × Int) (σ := Int × Int) (fun | (p175, p176) => (p175, p176)) (fun | (p175, p176), s_, w_ => (∃ us, s_ = slots 153 [(1, (.int .u64 g_)), (2, (.int .u64 (m_.tmod 1099511627766))), (7, (.pointer (some ⟨b4, 0, none⟩))), (9, (.int .i64 (i_.tmod 4))), (13, (.pointer (some ⟨b133, 0, none⟩))), (14, (.int .i64 p175)), (15, (.int .u64 p176))] us) ∧ St B w [] w_ [blk b4 (.cells [(.int .u64 s0_), (.int .u64 s1_), (.int .u64 s2_), (.int .u64 s3_)].toArray 101 (0, 0)), viewA (ptr b133) ((((((((fmtW 1 (2 + 0 % 20) (2 + 0 % 60)).set ((sessAt (i_.tmod 4)).toNat) 1).set (((sessAt (i_.tmod 4)) + 1).toNat) g_).set (((sessAt (i_.tmod 4)) + 2).toNat) (m_.tmod 1099511627766)).set ((slotAt (i_.tmod 4) 0).toNat) s0_).set ((slotAt (i_.tmod 4) 1).toNat) s1_).set ((slotAt (i_.tmod 4) 2).toNat) s2_).set ((slotAt (i_.tmod 4) 3).toNat) s3_) ([]), kU64.row a14 c15 ((((((((fmtW 1 (2 + 0 % 20) (2 + 0 % 60)).set ((sessAt (i_.tmod 4)).toNat) 1).set (((sessAt (i_.tmod 4)) + 1).toNat) g_).set (((sessAt (i_.tmod 4)) + 2).toNat) (m_.tmod 1099511627766)).set ((slotAt (i_.tmod 4) 0).toNat) s0_).set ((slotAt (i_.tmod 4) 1).toNat) s1_).set ((slotAt (i_.tmod 4) 2).toNat) s2_).set ((slotAt (i_.tmod 4) 3).toNat) s3_)]) (0, r173) ⟨slots_intro _ (by kernel_rfl), hs183⟩ hm ?_
    rintro k177 ih178 ⟨p175, p176⟩ _ w179 ⟨⟨us, rfl⟩, hs180⟩ hm
    replace hm : classwindow_B1 i_ g_ m_ s0_ s1_ s2_ s3_ k177 p175 p176 = some true := hm
    unfold classwindow_B1 at hm
    refine W.seq fun K184 hK184 => ?_
    refine W.seq fun K185 hK185 => ?_
    refine W.region ?_
    refine ops_run 2 (by kernel_rfl) ?_
    refine ops_val (v := .int .u64 (IntKind.u64.wrap (m_.tmod 1099511627766 + 9))) (v' := .int .u64 ((m_.tmod 1099511627766 + 9) % 18446744073709551616)) (by kernel_rfl) (congrArg (Value.int .u64) (wrap_u64_mod _)) ?_
    refine ops_run 1 (by kernel_rfl) ?_
    refine ops_done (by kernel_rfl) ?_
    refine hK185 _ _ ?_
    clear hK185
    refine W.cond (decide (p176 < ((m_.tmod 1099511627766 + 9) % 18446744073709551616))) (by kernel_rfl) (fun h186 => ?_) (fun h186 => ?_)
    ·
      have h186p : p176 < ((m_.tmod 1099511627766 + 9) % 18446744073709551616) := of_decide_eq_true h186
      replace hm := ite_yes hm h186p
      refine W.skip ?_
      refine hK184 _ _ ?_
      clear hK184
      refine W.seq fun K187 hK187 => ?_
      refine W.block ?_
      refine W.seq fun K188 hK188 => ?_
      refine W.region ?_
      refine ops_run 4 (by kernel_rfl) ?_
      obtain ⟨r189, h190, hm⟩ := bind_some hm
      refine ops_call0 hs180 (by kernel_rfl) (cof_walk (i_ := i_.tmod 4) (g_ := g_) (q_ := p176) (img := ((((((((fmtW 1 (2 + 0 % 20) (2 + 0 % 60)).set ((sessAt (i_.tmod 4)).toNat) 1).set (((sessAt (i_.tmod 4)) + 1).toNat) g_).set (((sessAt (i_.tmod 4)) + 2).toNat) (m_.tmod 1099511627766)).set ((slotAt (i_.tmod 4) 0).toNat) s0_).set ((slotAt (i_.tmod 4) 1).toNat) s1_).set ((slotAt (i_.tmod 4) 2).toNat) s2_).set ((slotAt (i_.tmod 4) 3).toNat) s3_)) (l := []) (hL := (hs180.oldCells hL)) (hv := (hs180.entAt 1 rfl viewA_at)) (hm := h190) B _) ?_
      rintro _ _ w191 ⟨rfl, rfl⟩ hs192
      have hs193 := St.ap0 hs192
      refine ops_run 4 (by kernel_rfl) ?_
      refine ops_new (fun b => .pointer (some ⟨b, 0, none⟩)) (.cells [(.int .i64 0), (.int .u64 0), (.int .u64 0), (.string ByteArray.empty)].toArray 46 (0, 0)) hs193 (by kernel_rfl) (fun b196 w194 hs195 => ?_)
      refine ops_run 1 (by kernel_rfl) ?_
      refine ops_store (off := 0) (cs := [(.int .i64 0), (.int .u64 0), (.int .u64 0), (.string ByteArray.empty)]) (vs := [(.int .i64 r189.2.1), (.int .u64 r189.2.2.1), (.int .u64 r189.2.2.2.1), (.string r189.2.2.2.2.1)]) hs195 (by kernel_rfl) (by simp) rfl (fun w197 hs198 => ?_)
      have hs199 : St B w [] w197 [blk b196 (.cells [(.int .i64 r189.2.1), (.int .u64 r189.2.2.1), (.int .u64 r189.2.2.2.1), (.string r189.2.2.2.2.1)].toArray 46 (0, 0)), blk b4 (.cells [(.int .u64 s0_), (.int .u64 s1_), (.int .u64 s2_), (.int .u64 s3_)].toArray 101 (0, 0)), viewA (ptr b133) ((((((((fmtW 1 (2 + 0 % 20) (2 + 0 % 60)).set ((sessAt (i_.tmod 4)).toNat) 1).set (((sessAt (i_.tmod 4)) + 1).toNat) g_).set (((sessAt (i_.tmod 4)) + 2).toNat) (m_.tmod 1099511627766)).set ((slotAt (i_.tmod 4) 0).toNat) s0_).set ((slotAt (i_.tmod 4) 1).toNat) s1_).set ((slotAt (i_.tmod 4) 2).toNat) s2_).set ((slotAt (i_.tmod 4) 3).toNat) s3_) ([]), kU64.row a14 c15 ((((((((fmtW 1 (2 + 0 % 20) (2 + 0 % 60)).set ((sessAt (i_.tmod 4)).toNat) 1).set (((sessAt (i_.tmod 4)) + 1).toNat) g_).set (((sessAt (i_.tmod 4)) + 2).toNat) (m_.tmod 1099511627766)).set ((slotAt (i_.tmod 4) 0).toNat) s0_).set ((slotAt (i_.tmod 4) 1).toNat) s1_).set ((slotAt (i_.tmod 4) 2).toNat) s2_).set ((slotAt (i_.tmod 4) 3).toNat) s3_)] := hs198
      refine ops_run 1 (by kernel_rfl) ?_
      refine ops_done (by kernel_rfl) ?_
      refine hK188 _ _ ?_
      clear hK188
      refine W.seq_join (fun s_ w_ => (∃ us, s_ = slots 153 [(1, (.int .u64 g_)), (2, (.int .u64 (m_.tmod 1099511627766))), (7, (.pointer (some ⟨b4, 0, none⟩))), (9, (.int .i64 (i_.tmod 4))), (13, (.pointer (some ⟨b133, 0, none⟩))), (14, (.int .i64 p175)), (15, (.int .u64 p176)), (16, (.int .u8 r189.1))] us) ∧ St B w [] w_ [blk b4 (.cells [(.int .u64 s0_), (.int .u64 s1_), (.int .u64 s2_), (.int .u64 s3_)].toArray 101 (0, 0)), viewA (ptr b133) ((((((((fmtW 1 (2 + 0 % 20) (2 + 0 % 60)).set ((sessAt (i_.tmod 4)).toNat) 1).set (((sessAt (i_.tmod 4)) + 1).toNat) g_).set (((sessAt (i_.tmod 4)) + 2).toNat) (m_.tmod 1099511627766)).set ((slotAt (i_.tmod 4) 0).toNat) s0_).set ((slotAt (i_.tmod 4) 1).toNat) s1_).set ((slotAt (i_.tmod 4) 2).toNat) s2_).set ((slotAt (i_.tmod 4) 3).toNat) s3_) ([]), blk b196 (.cells [(.int .i64 r189.2.1), (.int .u64 r189.2.2.1), (.int .u64 r189.2.2.2.1), (.string r189.2.2.2.2.1)].toArray 46 (0, 0)), kU64.row a14 c15 ((((((((fmtW 1 (2 + 0 % 20) (2 + 0 % 60)).set ((sessAt (i_.tmod 4)).toNat) 1).set (((sessAt (i_.tmod 4)) + 1).toNat) g_).set (((sessAt (i_.tmod 4)) + 2).toNat) (m_.tmod 1099511627766)).set ((slotAt (i_.tmod 4) 0).toNat) s0_).set ((slotAt (i_.tmod 4) 1).toNat) s1_).set ((slotAt (i_.tmod 4) 2).toNat) s2_).set ((slotAt (i_.tmod 4) 3).toNat) s3_)] ∧ classwindow_J3 k177 p175 p176 r189 = some true) ?_ ?_
      ·
        rintro _ w200 ⟨⟨us, rfl⟩, hs201, hm⟩
        unfold classwindow_J3 at hm
        refine W.seq_join (fun s_ w_ => ∃ (p202 : Bool), (∃ us, s_ = slots 153 [(1, (.int .u64 g_)), (2, (.int .u64 (m_.tmod 1099511627766))), (7, (.pointer (some ⟨b4, 0, none⟩))), (9, (.int .i64 (i_.tmod 4))), (13, (.pointer (some ⟨b133, 0, none⟩))), (14, (.int .i64 p175)), (15, (.int .u64 p176)), (124, (.bool p202))] us) ∧ St B w [] w_ [blk b4 (.cells [(.int .u64 s0_), (.int .u64 s1_), (.int .u64 s2_), (.int .u64 s3_)].toArray 101 (0, 0)), viewA (ptr b133) ((((((((fmtW 1 (2 + 0 % 20) (2 + 0 % 60)).set ((sessAt (i_.tmod 4)).toNat) 1).set (((sessAt (i_.tmod 4)) + 1).toNat) g_).set (((sessAt (i_.tmod 4)) + 2).toNat) (m_.tmod 1099511627766)).set ((slotAt (i_.tmod 4) 0).toNat) s0_).set ((slotAt (i_.tmod 4) 1).toNat) s1_).set ((slotAt (i_.tmod 4) 2).toNat) s2_).set ((slotAt (i_.tmod 4) 3).toNat) s3_) ([]), blk b196 (.cells [(.int .i64 r189.2.1), (.int .u64 r189.2.2.1), (.int .u64 r189.2.2.2.1), (.string r189.2.2.2.2.1)].toArray 46 (0, 0)), kU64.row a14 c15 ((((((((fmtW 1 (2 + 0 % 20) (2 + 0 % 60)).set ((sessAt (i_.tmod 4)).toNat) 1).set (((sessAt (i_.tmod 4)) + 1).toNat) g_).set (((sessAt (i_.tmod 4)) + 2).toNat) (m_.tmod 1099511627766)).set ((slotAt (i_.tmod 4) 0).toNat) s0_).set ((slotAt (i_.tmod 4) 1).toNat) s1_).set ((slotAt (i_.tmod 4) 2).toNat) s2_).set ((slotAt (i_.tmod 4) 3).toNat) s3_)] ∧ classwindow_J4 k177 p175 p176 p202 = some true) ?_ ?_
        ·
          rintro _ w203 ⟨p202, ⟨us, rfl⟩, hs204, hm⟩
          unfold classwindow_J4 at hm
          refine W.cond p202 (by kernel_rfl) (fun h205 => ?_) (fun h205 => ?_)
          ·
            have h205p : p202 = true := h205
            replace hm := ite_yes hm h205p
            refine W.region ?_
            refine ops_run 1 (by kernel_rfl) ?_
            obtain ⟨h206, hm⟩ := need_some hm
            refine ops_val (v := .int .i64 (IntKind.i64.wrap (p175 + 1))) (v' := .int .i64 (p175 + 1)) (by kernel_rfl) (congrArg (Value.int .i64) (wrap_i64 h206.1 h206.2)) ?_
            refine ops_run 1 (by kernel_rfl) ?_
            refine ops_done (by kernel_rfl) ?_
            refine normal_block ?_
            refine hK187 _ _ ?_
            clear hK187
            refine W.region ?_
            refine ops_run 1 (by kernel_rfl) ?_
            refine ops_val (v := .int .u64 (IntKind.u64.wrap (p176 + 1))) (v' := .int .u64 ((p176 + 1) % 18446744073709551616)) (by kernel_rfl) (congrArg (Value.int .u64) (wrap_u64_mod _)) ?_
            refine ops_run 1 (by kernel_rfl) ?_
            obtain ⟨r207, h208, hm⟩ := bind_some hm
            replace h208 := some_inj h208
            refine ops_set 15 (v := .int .u64 r207) (Eq.trans (by kernel_rfl) (congrArg (Value.int .u64) h208)) ?_
            refine ops_done (by kernel_rfl) ?_
            have hs209 := St.f3 hs204
            have hs210 := St.f2 hs209
            have hs211 := St.f2 hs210
            have hs212 := St.tk3 hs211
            refine loopAt_next ?_
            exact ih178 ((p175 + 1), r207) _ _ ⟨slots_intro _ (by kernel_rfl), hs212⟩ hm
          ·
            have h205p : ¬ (p202 = true) := ne_true_of_eq_false h205
            replace hm := ite_no hm h205p
            refine W.skip ?_
            refine normal_block ?_
            refine hK187 _ _ ?_
            clear hK187
            refine W.region ?_
            refine ops_run 1 (by kernel_rfl) ?_
            refine ops_val (v := .int .u64 (IntKind.u64.wrap (p176 + 1))) (v' := .int .u64 ((p176 + 1) % 18446744073709551616)) (by kernel_rfl) (congrArg (Value.int .u64) (wrap_u64_mod _)) ?_
            refine ops_run 1 (by kernel_rfl) ?_
            obtain ⟨r213, h214, hm⟩ := bind_some hm
            replace h214 := some_inj h214
            refine ops_set 15 (v := .int .u64 r213) (Eq.trans (by kernel_rfl) (congrArg (Value.int .u64) h214)) ?_
            refine ops_done (by kernel_rfl) ?_
            have hs215 := St.f3 hs204
            have hs216 := St.f2 hs215
            have hs217 := St.f2 hs216
            have hs218 := St.tk3 hs217
            refine loopAt_next ?_
            exact ih178 (p175, r213) _ _ ⟨slots_intro _ (by kernel_rfl), hs218⟩ hm
        ·
          refine W.region ?_
          refine ops_run 3 (by kernel_rfl) ?_
          rcases Bool.eq_false_or_eq_true (decide (r189.1 = 0)) with h219 | h219
          ·
            have h219p : r189.1 = 0 := of_decide_eq_true h219
            replace hm := ite_yes hm h219p
            refine ops_set 121 (v := .bool true) (eq_bool_of (by kernel_rfl) h219) ?_
            refine ops_set 120 (v := .bool true) (eq_bool_of (by kernel_rfl) h219) ?_
            refine ops_run 3 (by kernel_rfl) ?_
            refine ops_done (by kernel_rfl) ?_
            exact ⟨true, slots_intro _ (by kernel_rfl), hs201, hm⟩
          ·
            have h219p : ¬ (r189.1 = 0) := of_decide_eq_false h219
            replace hm := ite_no hm h219p
            refine ops_set 121 (v := .bool false) (eq_bool_of (by kernel_rfl) h219) ?_
            refine ops_set 120 (v := .bool false) (eq_bool_of (by kernel_rfl) h219) ?_
            refine ops_run 3 (by kernel_rfl) ?_
            refine ops_done (by kernel_rfl) ?_
            exact ⟨(decide (r189.1 = 1)), slots_intro _ (by kernel_rfl), hs201, hm⟩
      ·
        refine W.seq fun K220 hK220 => ?_
        refine W.region ?_
        refine ops_run 3 (by kernel_rfl) ?_
        rcases Bool.eq_false_or_eq_true (!decide (r189.2.2.2.2.2 = 0)) with h221 | h221
        rotate_left
        ·
          have h221p : r189.2.2.2.2.2 = 0 := of_decide_eq_true (bnot_false h221)
          replace hm := ite_yes hm h221p
          refine ops_set 80 (v := .bool false) (eq_bool_of (by kernel_rfl) h221) ?_
          refine ops_set 79 (v := .bool false) (eq_bool_of (by kernel_rfl) h221) ?_
          refine ops_run 8 (by kernel_rfl) ?_
          rcases Bool.eq_false_or_eq_true (!((decide (r189.1 = 2)) == (decide (p176 ≤ m_.tmod 1099511627766)))) with h222 | h222
          rotate_left
          ·
            have h222p : ((r189.1 = 2) ↔ (p176 ≤ m_.tmod 1099511627766)) := beq_yes decide_eq_true_iff decide_eq_true_iff (bnot_false h222)
            replace hm := ite_yes hm h222p
            refine ops_set 88 (v := .bool false) (eq_bool_of (by kernel_rfl) h222) ?_
            refine ops_set 86 (v := .bool false) (eq_bool_of (by kernel_rfl) h222) ?_
            refine ops_set 87 (v := .bool false) (eq_bool_of (by kernel_rfl) h222) ?_
            refine ops_run 4 (by kernel_rfl) ?_
            refine ops_val (v := .int .u64 (IntKind.u64.wrap (m_.tmod 1099511627766 + 4))) (v' := .int .u64 ((m_.tmod 1099511627766 + 4) % 18446744073709551616)) (by kernel_rfl) (congrArg (Value.int .u64) (wrap_u64_mod _)) ?_
            refine ops_run 4 (by kernel_rfl) ?_
            rcases Bool.eq_false_or_eq_true (!((decide (r189.1 = 3)) == (decide (p176 > ((m_.tmod 1099511627766 + 4) % 18446744073709551616))))) with h223 | h223
            rotate_left
            ·
              have h223p : ((r189.1 = 3) ↔ (p176 > ((m_.tmod 1099511627766 + 4) % 18446744073709551616))) := beq_yes decide_eq_true_iff decide_eq_true_iff (bnot_false h223)
              replace hm := ite_yes hm h223p
              refine ops_set 97 (v := .bool false) (eq_bool_of (by kernel_rfl) h223) ?_
              refine ops_set 95 (v := .bool false) (eq_bool_of (by kernel_rfl) h223) ?_
              refine ops_set 96 (v := .bool false) (eq_bool_of (by kernel_rfl) h223) ?_
              refine ops_run 6 (by kernel_rfl) ?_
              rcases Bool.eq_false_or_eq_true (decide (p176 > m_.tmod 1099511627766)) with h224 | h224
              ·
                have h224p : p176 > m_.tmod 1099511627766 := of_decide_eq_true h224
                replace hm := ite_yes hm h224p
                refine ops_set 103 (v := .bool true) (eq_bool_of (by kernel_rfl) h224) ?_
                refine ops_set 102 (v := .bool true) (eq_bool_of (by kernel_rfl) h224) ?_
                refine ops_run 2 (by kernel_rfl) ?_
                refine ops_val (v := .int .u64 (IntKind.u64.wrap (m_.tmod 1099511627766 + 4))) (v' := .int .u64 ((m_.tmod 1099511627766 + 4) % 18446744073709551616)) (by kernel_rfl) (congrArg (Value.int .u64) (wrap_u64_mod _)) ?_
                refine ops_run 3 (by kernel_rfl) ?_
                rcases Bool.eq_false_or_eq_true (decide (p176 ≤ ((m_.tmod 1099511627766 + 4) % 18446744073709551616))) with h225 | h225
                ·
                  have h225p : p176 ≤ ((m_.tmod 1099511627766 + 4) % 18446744073709551616) := of_decide_eq_true h225
                  replace hm := ite_yes hm h225p
                  refine ops_set 109 (v := .bool true) (eq_bool_of (by kernel_rfl) h225) ?_
                  refine ops_set 107 (v := .bool true) (eq_bool_of (by kernel_rfl) h225) ?_
                  refine ops_set 108 (v := .bool true) (eq_bool_of (by kernel_rfl) h225) ?_
                  refine ops_run 2 (by kernel_rfl) ?_
                  rcases Bool.eq_false_or_eq_true (decide (p176.tmod 4 = 0)) with h226 | h226
                  ·
                    have h226p : p176.tmod 4 = 0 := of_decide_eq_true h226
                    replace hm := ite_yes hm h226p
                    refine ops_R (runs_indexA (ad := ⟨b4, 0, none⟩) (n := 4) (z := p176.tmod 4) (size := 1) 0 h226p (by decide) (by kernel_rfl)) ?_
                    refine ops_R (runs_load (ad := ⟨b4, 0, none⟩) (v := (.int .u64 s0_)) (by kernel_rfl) (hs199.cellAt 1 rfl rfl)) ?_
                    refine ops_run 5 (by kernel_rfl) ?_
                    refine ops_done (by kernel_rfl) ?_
                    refine hK220 _ _ ?_
                    clear hK220
                    refine W.cond (!((decide (r189.1 = 1)) == (decide (s0_ = p176)))) (by kernel_rfl) (fun h227 => ?_) (fun h227 => ?_)
                    rotate_left
                    ·
                      have h227p : ((r189.1 = 1) ↔ (s0_ = p176)) := beq_yes decide_eq_true_iff decide_eq_true_iff (bnot_false h227)
                      replace hm := ite_yes hm h227p
                      refine W.skip ?_
                      have hs228 := St.f3 hs199
                      have hs229 := St.f1 hs228
                      have hs230 := St.f3 hs229
                      have hs231 := St.f3 hs230
                      exact ⟨slots_intro _ (by kernel_rfl), hs231, hm⟩
                    ·
                      have h227p : ¬ ((r189.1 = 1) ↔ (s0_ = p176)) := beq_no decide_eq_true_iff decide_eq_true_iff (bnot_true h227)
                      replace hm := ite_no hm h227p
                      refine W.seq fun K232 hK232 => ?_
                      refine W.region ?_
                      refine ops_run 1 (by kernel_rfl) ?_
                      refine ops_done (by kernel_rfl) ?_
                      refine hK232 _ _ ?_
                      clear hK232
                      refine W.ret (ret_seq (ret_block (ret_seq (ret_seq (ret_block (ret_seq ?_))))))
                      have hs233 := St.tk0 hs199
                      refine ret_of (.bool false) (by kernel_rfl) ⟨_, ⟨congrArg Value.bool (some_inj hm), rfl⟩, hs233⟩
                  ·
                    have h226p : ¬ (p176.tmod 4 = 0) := of_decide_eq_false h226
                    replace hm := ite_no hm h226p
                    rcases Bool.eq_false_or_eq_true (decide (p176.tmod 4 = 1)) with h234 | h234
                    ·
                      have h234p : p176.tmod 4 = 1 := of_decide_eq_true h234
                      replace hm := ite_yes hm h234p
                      refine ops_R (runs_indexA (ad := ⟨b4, 0, none⟩) (n := 4) (z := p176.tmod 4) (size := 1) 1 h234p (by decide) (by kernel_rfl)) ?_
                      refine ops_R (runs_load (ad := ⟨b4, 1, none⟩) (v := (.int .u64 s1_)) (by kernel_rfl) (hs199.cellAt 1 rfl rfl)) ?_
                      refine ops_run 5 (by kernel_rfl) ?_
                      refine ops_done (by kernel_rfl) ?_
                      refine hK220 _ _ ?_
                      clear hK220
                      refine W.cond (!((decide (r189.1 = 1)) == (decide (s1_ = p176)))) (by kernel_rfl) (fun h235 => ?_) (fun h235 => ?_)
                      rotate_left
                      ·
                        have h235p : ((r189.1 = 1) ↔ (s1_ = p176)) := beq_yes decide_eq_true_iff decide_eq_true_iff (bnot_false h235)
                        replace hm := ite_yes hm h235p
                        refine W.skip ?_
                        have hs236 := St.f3 hs199
                        have hs237 := St.f1 hs236
                        have hs238 := St.f3 hs237
                        have hs239 := St.f3 hs238
                        exact ⟨slots_intro _ (by kernel_rfl), hs239, hm⟩
                      ·
                        have h235p : ¬ ((r189.1 = 1) ↔ (s1_ = p176)) := beq_no decide_eq_true_iff decide_eq_true_iff (bnot_true h235)
                        replace hm := ite_no hm h235p
                        refine W.seq fun K240 hK240 => ?_
                        refine W.region ?_
                        refine ops_run 1 (by kernel_rfl) ?_
                        refine ops_done (by kernel_rfl) ?_
                        refine hK240 _ _ ?_
                        clear hK240
                        refine W.ret (ret_seq (ret_block (ret_seq (ret_seq (ret_block (ret_seq ?_))))))
                        have hs241 := St.tk0 hs199
                        refine ret_of (.bool false) (by kernel_rfl) ⟨_, ⟨congrArg Value.bool (some_inj hm), rfl⟩, hs241⟩
                    ·
                      have h234p : ¬ (p176.tmod 4 = 1) := of_decide_eq_false h234
                      replace hm := ite_no hm h234p
                      rcases Bool.eq_false_or_eq_true (decide (p176.tmod 4 = 2)) with h242 | h242
                      ·
                        have h242p : p176.tmod 4 = 2 := of_decide_eq_true h242
                        replace hm := ite_yes hm h242p
                        refine ops_R (runs_indexA (ad := ⟨b4, 0, none⟩) (n := 4) (z := p176.tmod 4) (size := 1) 2 h242p (by decide) (by kernel_rfl)) ?_
                        refine ops_R (runs_load (ad := ⟨b4, 2, none⟩) (v := (.int .u64 s2_)) (by kernel_rfl) (hs199.cellAt 1 rfl rfl)) ?_
                        refine ops_run 5 (by kernel_rfl) ?_
                        refine ops_done (by kernel_rfl) ?_
                        refine hK220 _ _ ?_
                        clear hK220
                        refine W.cond (!((decide (r189.1 = 1)) == (decide (s2_ = p176)))) (by kernel_rfl) (fun h243 => ?_) (fun h243 => ?_)
                        rotate_left
                        ·
                          have h243p : ((r189.1 = 1) ↔ (s2_ = p176)) := beq_yes decide_eq_true_iff decide_eq_true_iff (bnot_false h243)
                          replace hm := ite_yes hm h243p
                          refine W.skip ?_
                          have hs244 := St.f3 hs199
                          have hs245 := St.f1 hs244
                          have hs246 := St.f3 hs245
                          have hs247 := St.f3 hs246
                          exact ⟨slots_intro _ (by kernel_rfl), hs247, hm⟩
                        ·
                          have h243p : ¬ ((r189.1 = 1) ↔ (s2_ = p176)) := beq_no decide_eq_true_iff decide_eq_true_iff (bnot_true h243)
                          replace hm := ite_no hm h243p
                          refine W.seq fun K248 hK248 => ?_
                          refine W.region ?_
                          refine ops_run 1 (by kernel_rfl) ?_
                          refine ops_done (by kernel_rfl) ?_
                          refine hK248 _ _ ?_
                          clear hK248
                          refine W.ret (ret_seq (ret_block (ret_seq (ret_seq (ret_block (ret_seq ?_))))))
                          have hs249 := St.tk0 hs199
                          refine ret_of (.bool false) (by kernel_rfl) ⟨_, ⟨congrArg Value.bool (some_inj hm), rfl⟩, hs249⟩
                      ·
                        have h242p : ¬ (p176.tmod 4 = 2) := of_decide_eq_false h242
                        replace hm := ite_no hm h242p
                        rcases Bool.eq_false_or_eq_true (decide (p176.tmod 4 = 3)) with h250 | h250
                        ·
                          have h250p : p176.tmod 4 = 3 := of_decide_eq_true h250
                          replace hm := ite_yes hm h250p
                          refine ops_R (runs_indexA (ad := ⟨b4, 0, none⟩) (n := 4) (z := p176.tmod 4) (size := 1) 3 h250p (by decide) (by kernel_rfl)) ?_
                          refine ops_R (runs_load (ad := ⟨b4, 3, none⟩) (v := (.int .u64 s3_)) (by kernel_rfl) (hs199.cellAt 1 rfl rfl)) ?_
                          refine ops_run 5 (by kernel_rfl) ?_
                          refine ops_done (by kernel_rfl) ?_
                          refine hK220 _ _ ?_
                          clear hK220
                          refine W.cond (!((decide (r189.1 = 1)) == (decide (s3_ = p176)))) (by kernel_rfl) (fun h251 => ?_) (fun h251 => ?_)
                          rotate_left
                          ·
                            have h251p : ((r189.1 = 1) ↔ (s3_ = p176)) := beq_yes decide_eq_true_iff decide_eq_true_iff (bnot_false h251)
                            replace hm := ite_yes hm h251p
                            refine W.skip ?_
                            have hs252 := St.f3 hs199
                            have hs253 := St.f1 hs252
                            have hs254 := St.f3 hs253
                            have hs255 := St.f3 hs254
                            exact ⟨slots_intro _ (by kernel_rfl), hs255, hm⟩
                          ·
                            have h251p : ¬ ((r189.1 = 1) ↔ (s3_ = p176)) := beq_no decide_eq_true_iff decide_eq_true_iff (bnot_true h251)
                            replace hm := ite_no hm h251p
                            refine W.seq fun K256 hK256 => ?_
                            refine W.region ?_
                            refine ops_run 1 (by kernel_rfl) ?_
                            refine ops_done (by kernel_rfl) ?_
                            refine hK256 _ _ ?_
                            clear hK256
                            refine W.ret (ret_seq (ret_block (ret_seq (ret_seq (ret_block (ret_seq ?_))))))
                            have hs257 := St.tk0 hs199
                            refine ret_of (.bool false) (by kernel_rfl) ⟨_, ⟨congrArg Value.bool (some_inj hm), rfl⟩, hs257⟩
                        ·
                          have h250p : ¬ (p176.tmod 4 = 3) := of_decide_eq_false h250
                          replace hm := ite_no hm h250p
                          cases hm
                ·
                  have h225p : ¬ (p176 ≤ ((m_.tmod 1099511627766 + 4) % 18446744073709551616)) := of_decide_eq_false h225
                  replace hm := ite_no hm h225p
                  refine ops_set 109 (v := .bool false) (eq_bool_of (by kernel_rfl) h225) ?_
                  refine ops_set 107 (v := .bool false) (eq_bool_of (by kernel_rfl) h225) ?_
                  refine ops_set 108 (v := .bool false) (eq_bool_of (by kernel_rfl) h225) ?_
                  refine ops_run 9 (by kernel_rfl) ?_
                  refine ops_done (by kernel_rfl) ?_
                  refine hK220 _ _ ?_
                  clear hK220
                  refine W.cond (!((decide (r189.1 = 1)) == false)) (by kernel_rfl) (fun h258 => ?_) (fun h258 => ?_)
                  rotate_left
                  ·
                    have h258p : ((r189.1 = 1) ↔ False) := beq_yes decide_eq_true_iff ff_iff (bnot_false h258)
                    replace hm := ite_yes hm h258p
                    refine W.skip ?_
                    have hs259 := St.f3 hs199
                    have hs260 := St.f1 hs259
                    have hs261 := St.f3 hs260
                    have hs262 := St.f3 hs261
                    exact ⟨slots_intro _ (by kernel_rfl), hs262, hm⟩
                  ·
                    have h258p : ¬ ((r189.1 = 1) ↔ False) := beq_no decide_eq_true_iff ff_iff (bnot_true h258)
                    replace hm := ite_no hm h258p
                    refine W.seq fun K263 hK263 => ?_
                    refine W.region ?_
                    refine ops_run 1 (by kernel_rfl) ?_
                    refine ops_done (by kernel_rfl) ?_
                    refine hK263 _ _ ?_
                    clear hK263
                    refine W.ret (ret_seq (ret_block (ret_seq (ret_seq (ret_block (ret_seq ?_))))))
                    have hs264 := St.tk0 hs199
                    refine ret_of (.bool false) (by kernel_rfl) ⟨_, ⟨congrArg Value.bool (some_inj hm), rfl⟩, hs264⟩
              ·
                have h224p : ¬ (p176 > m_.tmod 1099511627766) := of_decide_eq_false h224
                replace hm := ite_no hm h224p
                refine ops_set 103 (v := .bool false) (eq_bool_of (by kernel_rfl) h224) ?_
                refine ops_set 102 (v := .bool false) (eq_bool_of (by kernel_rfl) h224) ?_
                refine ops_run 15 (by kernel_rfl) ?_
                refine ops_done (by kernel_rfl) ?_
                refine hK220 _ _ ?_
                clear hK220
                refine W.cond (!((decide (r189.1 = 1)) == false)) (by kernel_rfl) (fun h265 => ?_) (fun h265 => ?_)
                rotate_left
                ·
                  have h265p : ((r189.1 = 1) ↔ False) := beq_yes decide_eq_true_iff ff_iff (bnot_false h265)
                  replace hm := ite_yes hm h265p
                  refine W.skip ?_
                  have hs266 := St.f3 hs199
                  have hs267 := St.f1 hs266
                  have hs268 := St.f3 hs267
                  have hs269 := St.f3 hs268
                  exact ⟨slots_intro _ (by kernel_rfl), hs269, hm⟩
                ·
                  have h265p : ¬ ((r189.1 = 1) ↔ False) := beq_no decide_eq_true_iff ff_iff (bnot_true h265)
                  replace hm := ite_no hm h265p
                  refine W.seq fun K270 hK270 => ?_
                  refine W.region ?_
                  refine ops_run 1 (by kernel_rfl) ?_
                  refine ops_done (by kernel_rfl) ?_
                  refine hK270 _ _ ?_
                  clear hK270
                  refine W.ret (ret_seq (ret_block (ret_seq (ret_seq (ret_block (ret_seq ?_))))))
                  have hs271 := St.tk0 hs199
                  refine ret_of (.bool false) (by kernel_rfl) ⟨_, ⟨congrArg Value.bool (some_inj hm), rfl⟩, hs271⟩
            ·
              have h223p : ¬ ((r189.1 = 3) ↔ (p176 > ((m_.tmod 1099511627766 + 4) % 18446744073709551616))) := beq_no decide_eq_true_iff decide_eq_true_iff (bnot_true h223)
              replace hm := ite_no hm h223p
              refine ops_set 97 (v := .bool true) (eq_bool_of (by kernel_rfl) h223) ?_
              refine ops_set 95 (v := .bool true) (eq_bool_of (by kernel_rfl) h223) ?_
              refine ops_set 96 (v := .bool true) (eq_bool_of (by kernel_rfl) h223) ?_
              refine ops_run 21 (by kernel_rfl) ?_
              refine ops_done (by kernel_rfl) ?_
              refine hK220 _ _ ?_
              clear hK220
              refine W.cond_true true (by kernel_rfl) rfl ?_
              refine W.seq fun K272 hK272 => ?_
              refine W.region ?_
              refine ops_run 1 (by kernel_rfl) ?_
              refine ops_done (by kernel_rfl) ?_
              refine hK272 _ _ ?_
              clear hK272
              refine W.ret (ret_seq (ret_block (ret_seq (ret_seq (ret_block (ret_seq ?_))))))
              have hs273 := St.tk0 hs199
              refine ret_of (.bool false) (by kernel_rfl) ⟨_, ⟨congrArg Value.bool (some_inj hm), rfl⟩, hs273⟩
          ·
            have h222p : ¬ ((r189.1 = 2) ↔ (p176 ≤ m_.tmod 1099511627766)) := beq_no decide_eq_true_iff decide_eq_true_iff (bnot_true h222)
            replace hm := ite_no hm h222p
            refine ops_set 88 (v := .bool true) (eq_bool_of (by kernel_rfl) h222) ?_
            refine ops_set 86 (v := .bool true) (eq_bool_of (by kernel_rfl) h222) ?_
            refine ops_set 87 (v := .bool true) (eq_bool_of (by kernel_rfl) h222) ?_
            refine ops_run 30 (by kernel_rfl) ?_
            refine ops_done (by kernel_rfl) ?_
            refine hK220 _ _ ?_
            clear hK220
            refine W.cond_true true (by kernel_rfl) rfl ?_
            refine W.seq fun K274 hK274 => ?_
            refine W.region ?_
            refine ops_run 1 (by kernel_rfl) ?_
            refine ops_done (by kernel_rfl) ?_
            refine hK274 _ _ ?_
            clear hK274
            refine W.ret (ret_seq (ret_block (ret_seq (ret_seq (ret_block (ret_seq ?_))))))
            have hs275 := St.tk0 hs199
            refine ret_of (.bool false) (by kernel_rfl) ⟨_, ⟨congrArg Value.bool (some_inj hm), rfl⟩, hs275⟩
        ·
          have h221p : ¬ (r189.2.2.2.2.2 = 0) := of_decide_eq_false (bnot_true h221)
          replace hm := ite_no hm h221p
          refine ops_set 80 (v := .bool true) (eq_bool_of (by kernel_rfl) h221) ?_
          refine ops_set 79 (v := .bool true) (eq_bool_of (by kernel_rfl) h221) ?_
          refine ops_run 38 (by kernel_rfl) ?_
          refine ops_done (by kernel_rfl) ?_
          refine hK220 _ _ ?_
          clear hK220
          refine W.cond_true true (by kernel_rfl) rfl ?_
          refine W.seq fun K276 hK276 => ?_
          refine W.region ?_
          refine ops_run 1 (by kernel_rfl) ?_
          refine ops_done (by kernel_rfl) ?_
          refine hK276 _ _ ?_
          clear hK276
          refine W.ret (ret_seq (ret_block (ret_seq (ret_seq (ret_block (ret_seq ?_))))))
          have hs277 := St.tk0 hs199
          refine ret_of (.bool false) (by kernel_rfl) ⟨_, ⟨congrArg Value.bool (some_inj hm), rfl⟩, hs277⟩
    ·
      have h186p : ¬ (p176 < ((m_.tmod 1099511627766 + 9) % 18446744073709551616)) := of_decide_eq_false h186
      replace hm := ite_no hm h186p
      refine W.exit (exit_seq (exit_seq (exit_here ?_)))
      have hs278 := St.f2 hs180
      have hs279 := St.f2 hs278
      exact ⟨p175, slots_intro _ (by kernel_rfl), hs279, hm⟩

end Go.Proofs.YthimamnblklkbaaDoor
