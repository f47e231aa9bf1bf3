/- Texts, one behind the other: A0t, A0d, Ps, F0c, A0e, A0f, A1a, A1b, A1c, A0g, A0h, A1d, A1e, Lv, Pu. -/
import Derived.Test.YthimamnblklkbaaDoorQCO1
set_option linter.unusedVariables false
set_option linter.unusedSimpArgs false
set_option linter.unusedVariables false
set_option maxRecDepth 20000
set_option maxHeartbeats 1000000
namespace Go.Proofs.YthimamnblklkbaaDoor
open Go Go.RowKit
set_option linter.unusedSimpArgs false
set_option linter.unusedVariables false

def unpack_B0 (ws : List Int) (n_ : Int) (k18 : ((List Int) × Int) → Option (ByteArray × Int)) (q16 : List Int) (p17 : Int) : Option (ByteArray × Int) :=
 if p17 < (n_.toNat : Int) then (need (-9223372036854775808 ≤ (p17.tdiv 8) ∧ (p17.tdiv 8) ≤ 9223372036854775807) <|
need (0 ≤ (p17.tdiv 8) ∧ (p17.tdiv 8) < (ws.length : Int)) <|
need (-9223372036854775808 ≤ (8 * p17.tmod 8) ∧ (8 * p17.tmod 8) ≤ 9223372036854775807) <|
need (0 ≤ (8 * p17.tmod 8)) <|
need (0 ≤ p17 ∧ p17 < (n_.toNat : Int)) <|
need (p17.toNat < q16.length) <|
need (-9223372036854775808 ≤ (p17 + 1) ∧ (p17 + 1) ≤ 9223372036854775807) <|
k18 ((q16.set p17.toNat ((shrK .u64 (ws.getD ((p17.tdiv 8).toNat) 0) (8 * p17.tmod 8)) % 256)), (p17 + 1))) else (need (n_.toNat = q16.length) <|
some ((strOfNums q16), 0))

def unpack_M (ws : List Int) (n_ : Int) : Option (ByteArray × Int) :=
 if n_ < 0 then (some (ByteArray.empty, 1)) else (need (-9223372036854775808 ≤ (8 * (ws.length : Int)) ∧ (8 * (ws.length : Int)) ≤ 9223372036854775807) <|
if n_ > (8 * (ws.length : Int)) then (some (ByteArray.empty, 1)) else (need (n_ ≤ 1000000000) <|
iter (fun k_ s_ => unpack_B0 ws n_ k_ s_.1 s_.2) FUEL ((List.replicate n_.toNat (0 : Int)), 0)))

theorem unpack_walk {ws : List Int} {n_ : Int} {wa : Option Addr} {wc : Nat} {r : ByteArray × Int} (B : Nat) (w : World) (hw : CellsAt wa (kU64.cells ws) w) (hm : unpack_M ws n_ = some r) : Spec Tryd.prog 102 #[(.slice wa ws.length wc), (.int .i64 n_)] B w [] (fun v H' => v = .tuple #[.string r.1, .int .i64 r.2] ∧ H' = []) := by
 refine spec_Q Tryd.func102 rfl fun hs => ?_
 unfold unpack_M at hm
 refine W.sr fun K1 hK1 => ?_
 refine zE 2 (hK1 _ _ ?_)
 refine W.seq fun K2 hK2 => ?_
 refine W.sr fun K3 hK3 => ?_
 refine zR 3 ?_
 rcases Bool.eq_false_or_eq_true (decide (n_ < 0)) with h4 | h4
 ·
  obtain ⟨h4p, hm⟩ := iY hm h4
  refine zS 10 h4 ?_
  refine zS 9 h4 ?_
  refine zE 6 (hK3 _ _ ?_)
  refine W.cond_true true (by kernel_rfl) rfl ?_
  refine W.sr fun K5 hK5 => ?_
  refine zE 2 (hK5 _ _ ?_)
  refine W.ret (ret_seq ?_)
  obtain rfl := some_inj hm
  refine ret_of (.tuple #[(.string ByteArray.empty), (.int .i64 1)]) (by kernel_rfl) ⟨_, ⟨rfl, rfl⟩, hs⟩
 ·
  obtain ⟨h4p, hm⟩ := iN hm h4
  refine zS 10 h4 ?_
  refine zS 9 h4 ?_
  refine zR 3 ?_
  obtain ⟨h6, hm⟩ := need_some hm
  refine zI _ (wrap_i64 h6.1 h6.2) ?_
  refine zE 2 (hK3 _ _ ?_)
  refine W.cond (decide (n_ > (8 * (ws.length : Int)))) (by kernel_rfl) (fun h7 => ?_) (fun h7 => ?_)
  ·
   obtain ⟨h7p, hm⟩ := iY hm h7
   refine W.sr fun K8 hK8 => ?_
   refine zE 2 (hK8 _ _ ?_)
   refine W.ret (ret_seq ?_)
   obtain rfl := some_inj hm
   refine ret_of (.tuple #[(.string ByteArray.empty), (.int .i64 1)]) (by kernel_rfl) ⟨_, ⟨rfl, rfl⟩, hs⟩
  ·
   obtain ⟨h7p, hm⟩ := iN hm h7
   refine W.skip ?_
   refine hK2 _ _ ?_
   refine W.sr fun K9 hK9 => ?_
   refine zR 1 ?_
   obtain ⟨h13, hm⟩ := need_some hm
   refine ops_makeSlice kU8 0 (z := n_) (bytes := 1) n_.toNat (nat_of (by omega)) hs (by kernel_rfl) (by omega) (by unfold maxLen; omega) (fun b10 w11 hs12 => ?_)
   refine zE 1 (hK9 _ _ ?_)
   refine W.seq fun K14 hK14 => ?_
   refine W.sr fun K15 hK15 => ?_
   refine zE 3 (hK15 _ _ ?_)
   refine W.block ?_
   refine W.loop_iter (G := (List Int) × Int) (σ := (List Int) × Int) (fun | (q16, p17) => (q16, p17)) (fun | (q16, p17), s_, w_ => (∃ us, s_ = slots 40 [(0, (.slice wa ws.length wc)), (6, (.slice (some ⟨b10, 0, none⟩) n_.toNat n_.toNat)), (20, (.int .i64 (n_.toNat : Int))), (21, (.int .i64 p17))] us) ∧ St B w [] w_ [kU8.row (some ⟨b10, 0, none⟩) n_.toNat q16]) ((List.replicate n_.toNat (0 : Int)), 0) ⟨slots_intro _ (by kernel_rfl), hs12⟩ hm ?_
   rintro k18 ih19 ⟨q16, p17⟩ _ w20 ⟨⟨us, rfl⟩, hs21⟩ hm
   replace hm : unpack_B0 ws n_ k18 q16 p17 = some r := hm
   unfold unpack_B0 at hm
   refine W.sr fun K22 hK22 => ?_
   refine zE 1 (hK22 _ _ ?_)
   refine W.seq fun K23 hK23 => ?_
   refine W.cond (decide (p17 < (n_.toNat : Int))) (by kernel_rfl) (fun h24 => ?_) (fun h24 => ?_)
   ·
    obtain ⟨h24p, hm⟩ := iY hm h24
    refine W.skip ?_
    refine hK23 _ _ ?_
    refine W.seq fun K25 hK25 => ?_
    refine W.block ?_
    refine W.sr fun K26 hK26 => ?_
    refine zE 2 (hK26 _ _ ?_)
    refine W.region ?_
    refine zR 4 ?_
    obtain ⟨h27, hm⟩ := need_some hm
    refine ops_R (v := .int .i64 (p17.tdiv 8)) (runs_quo (k := .i64) (a := p17) (b := 8) (by kernel_rfl) (by decide) (wrap_i64 h27.1 h27.2)) ?_
    obtain ⟨h29, hm⟩ := need_some hm
    have hk28 := lt_toNat h29
    refine ops_R (runs_index (a := wa) (n := ws.length) (z := (p17.tdiv 8)) (size := 1) ((p17.tdiv 8).toNat) (nat_of h29.1) hk28 (kU64.addr (hs21.oldCells hw) hk28) (by kernel_rfl)) ?_
    refine zL ((adr wa (((p17.tdiv 8).toNat) * 1)).add 0) (.int .u64 (ws.getD ((p17.tdiv 8).toNat) 0)) (kU64.at (hs21.oldCells hw) hk28 0 0 rfl) ?_
    refine zR 2 ?_
    obtain ⟨h30, hm⟩ := need_some hm
    refine zI _ (wrap_i64 h30.1 h30.2) ?_
    obtain ⟨h31, hm⟩ := need_some hm
    refine ops_R (v := .int .u64 (shrK .u64 (ws.getD ((p17.tdiv 8).toNat) 0) (8 * p17.tmod 8))) (runs_shift (b := false) (k := .u64) (x := (ws.getD ((p17.tdiv 8).toNat) 0)) (y := (8 * p17.tmod 8)) (by kernel_rfl) h31) ?_
    refine ops_val (v := .int .u8 (IntKind.u8.wrap (shrK .u64 (ws.getD ((p17.tdiv 8).toNat) 0) (8 * p17.tmod 8)))) (v' := .int .u8 ((shrK .u64 (ws.getD ((p17.tdiv 8).toNat) 0) (8 * p17.tmod 8)) % 256)) (by kernel_rfl) (congrArg (Value.int .u8) (wrap_u8_mod _)) ?_
    obtain ⟨h33, hm⟩ := need_some hm
    have hk32 := lt_toNat h33
    obtain ⟨h35, hm⟩ := need_some hm
    have hk34 := h35
    refine ops_R (runs_index (a := (some ⟨b10, 0, none⟩)) (n := n_.toNat) (z := p17) (size := 1) p17.toNat (nat_of h33.1) hk32 (kU8.addr (St.kcells kU8 hs21 0 rfl) hk34) (by kernel_rfl)) ?_
    refine ops_storeK kU8 (j := 0) (vs := [(.int .u8 ((shrK .u64 (ws.getD ((p17.tdiv 8).toNat) 0) (8 * p17.tmod 8)) % 256))]) 0 ((shrK .u64 (ws.getD ((p17.tdiv 8).toNat) 0) (8 * p17.tmod 8)) % 256) hs21 hk34 (Nat.le_of_ble_eq_true rfl) (by simp) rfl rfl (by kernel_rfl) (fun w36 hs37 => ?_)
    refine zD ?_
    refine normal_block ?_
    refine hK25 _ _ ?_
    refine W.region ?_
    obtain ⟨h39, hm⟩ := need_some hm
    refine zI _ (wrap_i64 h39.1 h39.2) ?_
    refine zE 1 ?_
    refine loopAt_next ?_
    exact ih19 ((q16.set p17.toNat ((shrK .u64 (ws.getD ((p17.tdiv 8).toNat) 0) (8 * p17.tmod 8)) % 256)), (p17 + 1)) _ _ ⟨slots_intro _ (by kernel_rfl), hs37⟩ hm
   ·
    obtain ⟨h24p, hm⟩ := iN hm h24
    refine W.exit (exit_seq (exit_seq (exit_here ?_)))
    refine hK14 _ _ ?_
    refine W.sr fun K40 hK40 => ?_
    refine zR 1 ?_
    obtain ⟨h41, hm⟩ := need_some hm
    refine ops_R (runs_bytesStr (a := (some ⟨b10, 0, none⟩)) (n := n_.toNat) (c := n_.toNat) (xs := q16) (St.kcells kU8 hs21 0 rfl) h41 (by kernel_rfl)) ?_
    refine zE 2 (hK40 _ _ ?_)
    refine W.ret ?_
    obtain rfl := some_inj hm
    have hs42 := St.tk0 hs21
    refine ret_of (.tuple #[(.string (strOfNums q16)), (.int .i64 0)]) (by kernel_rfl) ⟨_, ⟨rfl, rfl⟩, hs42⟩

def runpack_B0 (ws : List Int) (n_ : Int) (k16 : ((List Int) × Int) → Option (ByteArray × Int)) (q14 : List Int) (p15 : Int) : Option (ByteArray × Int) :=
 if p15 < n_ then (need (-9223372036854775808 ≤ (p15.tdiv 8) ∧ (p15.tdiv 8) ≤ 9223372036854775807) <|
need (0 ≤ (p15.tdiv 8) ∧ (p15.tdiv 8) < (ws.length : Int)) <|
need (-9223372036854775808 ≤ (8 * p15.tmod 8) ∧ (8 * p15.tmod 8) ≤ 9223372036854775807) <|
need (0 ≤ (8 * p15.tmod 8) ∧ (8 * p15.tmod 8) ≤ 18446744073709551615) <|
need (0 ≤ (8 * p15.tmod 8)) <|
need (q14.length + 1 ≤ 1000000000) <|
need (-9223372036854775808 ≤ (p15 + 1) ∧ (p15 + 1) ≤ 9223372036854775807) <|
k16 ((q14 ++ [((shrK .u64 (ws.getD ((p15.tdiv 8).toNat) 0) (8 * p15.tmod 8)) % 256)]), (p15 + 1))) else (some ((strOfNums q14), 0))

def runpack_M (ws : List Int) (n_ : Int) : Option (ByteArray × Int) :=
 if n_ < 0 then (some (ByteArray.empty, 1)) else (need (-9223372036854775808 ≤ (8 * (ws.length : Int)) ∧ (8 * (ws.length : Int)) ≤ 9223372036854775807) <|
if n_ > (8 * (ws.length : Int)) then (some (ByteArray.empty, 1)) else (iter (fun k_ s_ => runpack_B0 ws n_ k_ s_.1 s_.2) FUEL ([], 0)))

end Go.Proofs.YthimamnblklkbaaDoor

set_option linter.unusedVariables false
set_option maxRecDepth 20000
set_option maxHeartbeats 2000000
namespace Go.Proofs.YthimamnblklkbaaDoor
open Go Go.RowKit
set_option linter.unusedSimpArgs false
set_option linter.unusedVariables false

def ssess_M (img : List Int) (i_ : Int) : Option (Int × Int) :=
 if (sessAt i_) < 0 then (some (0, 1)) else (need (-9223372036854775808 ≤ ((sessAt i_) + 64) ∧ ((sessAt i_) + 64) ≤ 9223372036854775807) <|
if (img.length : Int) < ((sessAt i_) + 64) then (some (0, 8)) else (some ((sessAt i_), 0)))

theorem ssess_walk {img : List Int} {l : List (Int × Int)} {i_ : Int} {vb : Nat} {r : Int × Int} (B : Nat) (w : World) (hL : CellsAt (some ⟨1, 0, none⟩) [(.int .i64 1), (.int .i64 2), (.int .i64 2)] w) (hv : ViewAt (ptr vb) img l w) (hm : ssess_M img i_ = some r) : Spec Tryd.prog 100 #[(.pointer (some ⟨vb, 0, none⟩)), (.int .i64 i_)] B w [] (fun v H' => v = (.tuple #[(.int .i64 r.1), (.int .i64 r.2)]) ∧ H' = []) := by
 refine spec_Q Tryd.func100 rfl fun hs => ?_
 unfold ssess_M at hm
 refine W.sr fun K1 hK1 => ?_
 refine zE 2 (hK1 _ _ ?_)
 refine W.sr fun K2 hK2 => ?_
 refine zR 1 ?_
 refine zC00 hs (sess_spec (i_ := i_) (hL := (hs.oldCells hL)) B _) fun w3 hs5 => ?_
 refine zE 1 (hK2 _ _ ?_)
 refine W.seq fun K6 hK6 => ?_
 refine W.block ?_
 refine W.sr fun K7 hK7 => ?_
 refine zE 3 (hK7 _ _ ?_)
 refine W.cond_false false (by kernel_rfl) rfl ?_
 refine W.sr fun K8 hK8 => ?_
 refine zE 3 (hK8 _ _ ?_)
 refine W.cond (decide ((sessAt i_) < 0)) (by kernel_rfl) (fun h9 => ?_) (fun h9 => ?_)
 ·
  obtain ⟨h9p, hm⟩ := iY hm h9
  refine W.sr fun K10 hK10 => ?_
  refine zE 2 (hK10 _ _ ?_)
  refine W.ret (ret_block (ret_seq ?_))
  obtain rfl := some_inj hm
  refine ret_of (.tuple #[(.int .i64 0), (.int .i64 1)]) (by kernel_rfl) ⟨_, ⟨rfl, rfl⟩, hs5⟩
 ·
  obtain ⟨h9p, hm⟩ := iN hm h9
  refine W.sr fun K11 hK11 => ?_
  refine zR 1 ?_
  refine zC00 hs5 (len_spec (hv := (viewAt_old hs5 hv)) B _) fun w12 hs14 => ?_
  refine zR 1 ?_
  obtain ⟨h15, hm⟩ := need_some hm
  refine zI _ (wrap_i64 h15.1 h15.2) ?_
  refine zE 2 (hK11 _ _ ?_)
  refine W.cond (decide ((img.length : Int) < ((sessAt i_) + 64))) (by kernel_rfl) (fun h16 => ?_) (fun h16 => ?_)
  ·
   obtain ⟨h16p, hm⟩ := iY hm h16
   refine W.sr fun K17 hK17 => ?_
   refine zE 2 (hK17 _ _ ?_)
   refine W.ret (ret_block (ret_seq ?_))
   obtain rfl := some_inj hm
   refine ret_of (.tuple #[(.int .i64 0), (.int .i64 8)]) (by kernel_rfl) ⟨_, ⟨rfl, rfl⟩, hs14⟩
  ·
   obtain ⟨h16p, hm⟩ := iN hm h16
   refine W.skip ?_
   refine normal_block ?_
   refine hK6 _ _ ?_
   refine W.sr fun K18 hK18 => ?_
   refine zE 3 (hK18 _ _ ?_)
   refine W.ret ?_
   obtain rfl := some_inj hm
   refine ret_of (.tuple #[(.int .i64 (sessAt i_)), (.int .i64 0)]) (by kernel_rfl) ⟨_, ⟨rfl, rfl⟩, hs14⟩

end Go.Proofs.YthimamnblklkbaaDoor

namespace Go.Proofs.YthimamnblklkbaaDoor
open Go Go.RowKit
def vsets (img : List Int) : List (Int × Int) → List (Int × Int) → Int × List (Int × Int)
  | l, [] => (0, l)
  | l, x :: xs => if (vwrite img l x.1 x.2).1 = 0 then vsets img (vwrite img l x.1 x.2).2 xs else vwrite img l x.1 x.2
theorem vsets_step {img : List Int} {m xs : List (Int × Int)} {k : Nat} (hk : k < xs.length) :
    vsets img m (xs.drop k) = if (vwrite img m (xs.getD k (0, 0)).1 (xs.getD k (0, 0)).2).1 = 0 then vsets img (vwrite img m (xs.getD k (0, 0)).1 (xs.getD k (0, 0)).2).2 (xs.drop (k + 1)) else vwrite img m (xs.getD k (0, 0)).1 (xs.getD k (0, 0)).2 := by
  have e : xs.drop k = xs.getD k (0, 0) :: xs.drop (k + 1) := by
    rw [List.drop_eq_getElem_cons hk]
    simp [hk]
  rw [e]
  rfl
end Go.Proofs.YthimamnblklkbaaDoor

set_option maxRecDepth 20000
namespace Go.Proofs.YthimamnblklkbaaDoor
open Go Go.RowKit
set_option linter.unusedSimpArgs false
set_option linter.unusedVariables false

theorem word_spec {at_ x_ : Int} (B : Nat) (w : World) : Spec Tryd.prog 104 #[(.int .i64 at_), (.int .u64 x_)] B w [] (fun v H' => ∃ b1 b2, v = (.func (.func 144) #[] #[(.pointer (some ⟨b1, 0, none⟩)), (.pointer (some ⟨b2, 0, none⟩))]) ∧ H' = [blk b1 (.cells [(.int .i64 at_)].toArray 3 (0, 0)), blk b2 (.cells [(.int .u64 x_)].toArray 38 (0, 0))]) := by
 refine spec_Q Tryd.func104 rfl fun hs => ?_
 refine W.sr fun K1 hK1 => ?_
 refine zN [(.int .i64 at_)] 3 hs fun b4 w2 hs3 => ?_
 refine zN [(.int .u64 x_)] 38 hs3 fun b7 w5 hs6 => ?_
 refine zE 1 (hK1 _ _ ?_)
 refine W.sr fun K8 hK8 => ?_
 refine zE 2 (hK8 _ _ ?_)
 refine W.ret ?_
 have hs9 := St.f1 hs6
 refine ret_of (.func (.func 144) #[] #[(.pointer (some ⟨b4, 0, none⟩)), (.pointer (some ⟨b7, 0, none⟩))]) (by kernel_rfl) ⟨_, ⟨b4, b7, rfl, rfl⟩, hs9⟩

theorem word1_spec {b : Nat} {img : List Int} {l : List (Int × Int)} {b1 b2 : Nat} {at_ x_ : Int} (B : Nat) (w : World) (h1 : w.heap[b1]? = some (.cells [(.int .i64 at_)].toArray 3 (0, 0))) (h2 : w.heap[b2]? = some (.cells [(.int .u64 x_)].toArray 38 (0, 0))) : Spec Tryd.prog 144 #[(.pointer (some ⟨b, 0, none⟩)), (.pointer (some ⟨b1, 0, none⟩)), (.pointer (some ⟨b2, 0, none⟩))] B w [viewA (ptr b) img l] (fun v H' => v = .int .i64 (vwrite img l at_ x_).1 ∧ H' = [viewA (ptr b) img (vwrite img l at_ x_).2]) := by
 refine spec_W Tryd.func144 rfl fun l0 hs => ?_
 refine W.sr fun K1 hK1 => ?_
 refine zE 1 (hK1 _ _ ?_)
 refine W.sr fun K2 hK2 => ?_
 refine zR 1 ?_
 refine zL ⟨b1, 0, none⟩ (.int .i64 at_) (cell_of_blk h1 rfl) ?_
 refine zL ⟨b2, 0, none⟩ (.int .u64 x_) (cell_of_blk h2 rfl) ?_
 refine zC11 hs (sset_spec (b := b) (img := img) (l := l) (at_ := at_) (x_ := x_) B _) fun w3 hs5 => ?_
 refine zE 1 (hK2 _ _ ?_)
 refine W.ret ?_
 refine ret_of (.int .i64 ((vwrite img l at_ x_).1)) (by kernel_rfl) ⟨_, ⟨rfl, rfl⟩, hs5⟩

theorem row_spec {b : Nat} {img : List Int} {l : List (Int × Int)} {a : Option Addr} {n c : Nat} {xs : List (Int × Int)} (B : Nat) (w : World) (hn : n = xs.length) (hsz : xs.length ≤ 1000000) : Spec Tryd.prog 103 #[(.pointer (some ⟨b, 0, none⟩)), (.slice a n c)] B w [viewA (ptr b) img l, stepsA a c xs] (fun v H' => v = .int .i64 (vsets img l xs).1 ∧ H' = [viewA (ptr b) img (vsets img l xs).2]) := by
 refine spec_W Tryd.func103 rfl fun l0 hs => ?_
 obtain ⟨bs, hbs, hs1⟩ := St.steps_open (St.f1 hs)
 obtain rfl : n = bs.length := hn.trans hbs.symm
 refine W.sr fun K1 hK1 => ?_
 refine zE 1 (hK1 _ _ ?_)
 refine W.seq fun K2 hK2 => ?_
 refine W.sr fun K3 hK3 => ?_
 refine zE 3 (hK3 _ _ ?_)
 refine W.block ?_
 refine W.loop (G := Nat × List (Int × Int)) (fun | (k, m), s_, w_ => (∃ us, s_ = slots 21 [(0, (.pointer (some ⟨b, 0, none⟩))), (8, (.slice a bs.length c)), (9, (.int .i64 (bs.length : Int))), (10, (.int .i64 (k : Int)))] us) ∧ St B w l0 w_ [kStep.row a c bs, boxesA bs xs, viewA (ptr b) img m] ∧ (k ≤ xs.length) ∧ (vsets img l xs = vsets img m (xs.drop k))) (fun | (k, m) => xs.length - k) (0, l) ⟨slots_intro _ (by kernel_rfl), hs1, Nat.zero_le _, rfl⟩ ?_
 rintro ⟨k, m⟩ _ w4 ⟨⟨us, rfl⟩, hs5, hk_, hkm⟩
 refine W.sr fun K6 hK6 => ?_
 refine zE 1 (hK6 _ _ ?_)
 refine W.seq fun K7 hK7 => ?_
 refine W.cond (decide ((k : Int) < (bs.length : Int))) (by kernel_rfl) (fun h8 => ?_) (fun h8 => ?_)
 ·
  have h8p := of_decide_eq_true h8
  refine W.skip ?_
  refine hK7 _ _ ?_
  refine W.seq fun K9 hK9 => ?_
  refine W.block ?_
  refine W.sr fun K10 hK10 => ?_
  have h12 : k < bs.length := by omega
  have hk11 := h12
  refine ops_R (runs_index (a := a) (n := bs.length) (z := (k : Int)) (size := 1) k rfl hk11 (kStep.addr (St.kcells kStep hs5 0 rfl) hk11) (by kernel_rfl)) ?_
  refine zL ((adr a (k * 1)).add 0) (.func (.func 144) #[] #[(.pointer (some ⟨(bs.getD k (0, 0)).1, 0, none⟩)), (.pointer (some ⟨(bs.getD k (0, 0)).2, 0, none⟩))]) (kStep.at (St.kcells kStep hs5 0 rfl) hk11 (0, 0) 0 rfl) ?_
  refine zE 1 (hK10 _ _ ?_)
  refine W.sr fun K13 hK13 => ?_
  refine zR 2 ?_
  have hs14 := St.f2 hs5
  refine zC11 hs14 (word1_spec (b := b) (img := img) (l := m) (at_ := (xs.getD k (0, 0)).1) (x_ := (xs.getD k (0, 0)).2) (h1 := (hs5.entAt 1 rfl boxes_at k (by omega)).1) (h2 := (hs5.entAt 1 rfl boxes_at k (by omega)).2) B _) fun w15 hs17 => ?_
  refine zE 1 (hK13 _ _ ?_)
  refine W.sr fun K18 hK18 => ?_
  refine zE 2 (hK18 _ _ ?_)
  refine W.cond (!decide ((vwrite img m (xs.getD k (0, 0)).1 (xs.getD k (0, 0)).2).1 = 0)) (by kernel_rfl) (fun h19 => ?_) (fun h19 => ?_)
  ·
   have h19p : ¬ ((vwrite img m (xs.getD k (0, 0)).1 (xs.getD k (0, 0)).2).1 = 0) := of_decide_eq_false (bnot_true h19)
   refine W.sr fun K20 hK20 => ?_
   refine zE 2 (hK20 _ _ ?_)
   refine W.ret (ret_block (ret_seq (ret_seq (ret_block (ret_seq ?_)))))
   have hs21 := St.tk1 hs17
   have e_ : vsets img l xs = vwrite img m (xs.getD k (0, 0)).1 (xs.getD k (0, 0)).2 := hkm.trans ((vsets_step (by omega)).trans (if_neg (by assumption)))
   refine ret_of (.int .i64 ((vwrite img m (xs.getD k (0, 0)).1 (xs.getD k (0, 0)).2).1)) (by kernel_rfl) ⟨_, ⟨by rw [e_], by rw [e_]⟩, hs21⟩
  ·
   have h19p : (vwrite img m (xs.getD k (0, 0)).1 (xs.getD k (0, 0)).2).1 = 0 := of_decide_eq_true (bnot_false h19)
   refine W.skip ?_
   refine normal_block ?_
   refine hK9 _ _ ?_
   refine W.region ?_
   have h22 : -9223372036854775808 ≤ ((k : Int) + 1) ∧ ((k : Int) + 1) ≤ 9223372036854775807 := by omega
   refine zI _ (wrap_i64 h22.1 h22.2) ?_
   refine zE 1 ?_
   have e0_ : (vwrite img m (xs.getD k (0, 0)).1 (xs.getD k (0, 0)).2).1 = 0 := by assumption
   have hk2 := (vsets_step (img := img) (m := m) (xs := xs) (k := k) (by omega)).trans (if_pos e0_)
   have hs23 := St.f2 hs17
   have hs24 := St.f2 hs23
   exact ⟨(k + 1, (vwrite img m (xs.getD k (0, 0)).1 (xs.getD k (0, 0)).2).2), ⟨slots_intro _ (by kernel_rfl), hs24, by omega, hkm.trans hk2⟩, by first | omega | (dsimp only; omega)⟩
 ·
  have h8p := of_decide_eq_false h8
  refine W.exit (exit_seq (exit_seq (exit_here ?_)))
  refine hK2 _ _ ?_
  refine W.sr fun K25 hK25 => ?_
  refine zE 1 (hK25 _ _ ?_)
  refine W.ret ?_
  have hs26 := St.f2 hs5
  have hs27 := St.tk1 hs26
  have e_ : vsets img l xs = (0, m) := hkm.trans (by rw [List.drop_of_length_le (by omega)]; rfl)
  refine ret_of (.int .i64 0) (by kernel_rfl) ⟨_, ⟨by rw [e_], by rw [e_]⟩, hs27⟩

end Go.Proofs.YthimamnblklkbaaDoor

set_option linter.unusedVariables false
set_option maxRecDepth 20000
set_option maxHeartbeats 2000000
namespace Go.Proofs.YthimamnblklkbaaDoor
open Go Go.RowKit
set_option linter.unusedSimpArgs false
set_option linter.unusedVariables false

def sfind_M (img : List Int) (i_ : Int) (k_ : Int) : Option (Int × Int) :=
 if (slotAt i_ k_) < 0 then (some (0, 1)) else ((ssess_M img i_).bind fun r11 =>
some ((slotAt i_ k_), r11.2))

theorem sfind_walk {img : List Int} {l : List (Int × Int)} {i_ : Int} {k_ : Int} {vb : Nat} {r : Int × Int} (B : Nat) (w : World) (hL : CellsAt (some ⟨1, 0, none⟩) [(.int .i64 1), (.int .i64 2), (.int .i64 2)] w) (hv : ViewAt (ptr vb) img l w) (hm : sfind_M img i_ k_ = some r) : Spec Tryd.prog 101 #[(.pointer (some ⟨vb, 0, none⟩)), (.int .i64 i_), (.int .i64 k_)] B w [] (fun v H' => v = (.tuple #[(.int .i64 r.1), (.int .i64 r.2)]) ∧ H' = []) := by
 refine spec_Q Tryd.func101 rfl fun hs => ?_
 unfold sfind_M at hm
 refine W.sr fun K1 hK1 => ?_
 refine zE 2 (hK1 _ _ ?_)
 refine W.sr fun K2 hK2 => ?_
 refine zR 2 ?_
 refine zC00 hs (slotat_spec (i_ := i_) (k_ := k_) (hL := (hs.oldCells hL)) B _) fun w3 hs5 => ?_
 refine zE 1 (hK2 _ _ ?_)
 refine W.seq fun K6 hK6 => ?_
 refine W.sr fun K7 hK7 => ?_
 refine zE 6 (hK7 _ _ ?_)
 refine W.cond (decide ((slotAt i_ k_) < 0)) (by kernel_rfl) (fun h8 => ?_) (fun h8 => ?_)
 ·
  obtain ⟨h8p, hm⟩ := iY hm h8
  refine W.sr fun K9 hK9 => ?_
  refine zE 2 (hK9 _ _ ?_)
  refine W.ret (ret_seq ?_)
  obtain rfl := some_inj hm
  refine ret_of (.tuple #[(.int .i64 0), (.int .i64 1)]) (by kernel_rfl) ⟨_, ⟨rfl, rfl⟩, hs5⟩
 ·
  obtain ⟨h8p, hm⟩ := iN hm h8
  refine W.skip ?_
  refine hK6 _ _ ?_
  refine W.sr fun K10 hK10 => ?_
  refine zR 2 ?_
  obtain ⟨r11, h12, hm⟩ := bind_some hm
  refine zC00 hs5 (ssess_walk (i_ := i_) (img := img) (l := l) (hL := (hs5.oldCells hL)) (hv := (viewAt_old hs5 hv)) (hm := h12) B _) fun w13 hs15 => ?_
  refine zE 5 (hK10 _ _ ?_)
  refine W.sr fun K16 hK16 => ?_
  refine zE 4 (hK16 _ _ ?_)
  refine W.ret ?_
  obtain rfl := some_inj hm
  refine ret_of (.tuple #[(.int .i64 (slotAt i_ k_)), (.int .i64 r11.2)]) (by kernel_rfl) ⟨_, ⟨rfl, rfl⟩, hs15⟩

def sget_M (img : List Int) (l : List (Int × Int)) (i_ : Int) : Option (Bool × Int × Int × Int) :=
 (ssess_M img i_).bind fun r6 =>
if r6.2 = 0 then (if (vget img l r6.1) > 1 then (some (false, 0, 0, 4)) else (need (-9223372036854775808 ≤ (r6.1 + 1) ∧ (r6.1 + 1) ≤ 9223372036854775807) <|
need (-9223372036854775808 ≤ (r6.1 + 2) ∧ (r6.1 + 2) ≤ 9223372036854775807) <|
some (decide ((vget img l r6.1) = 1), (vget img l (r6.1 + 1)), (vget img l (r6.1 + 2)), 0))) else (some (false, 0, 0, r6.2))

theorem sget_walk {img : List Int} {l : List (Int × Int)} {i_ : Int} {vb : Nat} {r : Bool × Int × Int × Int} (B : Nat) (w : World) (hL : CellsAt (some ⟨1, 0, none⟩) [(.int .i64 1), (.int .i64 2), (.int .i64 2)] w) (hv : ViewAt (ptr vb) img l w) (hm : sget_M img l i_ = some r) : Spec Tryd.prog 30 #[(.pointer (some ⟨vb, 0, none⟩)), (.int .i64 i_)] B w [] (fun v H' => v = (.tuple #[(.agg #[(.bool r.1), (.int .u64 r.2.1), (.int .u64 r.2.2.1)]), (.int .i64 r.2.2.2)]) ∧ H' = []) := by
 refine spec_Q Tryd.func30 rfl fun hs => ?_
 unfold sget_M at hm
 refine W.sr fun K1 hK1 => ?_
 refine zN [(.bool false), (.int .u64 0), (.int .u64 0)] 48 hs fun b4 w2 hs3 => ?_
 refine zE 1 (hK1 _ _ ?_)
 refine W.sr fun K5 hK5 => ?_
 refine zR 2 ?_
 obtain ⟨r6, h7, hm⟩ := bind_some hm
 refine zC00 hs3 (ssess_walk (i_ := i_) (img := img) (l := l) (hL := (hs3.oldCells hL)) (hv := (viewAt_old hs3 hv)) (hm := h7) B _) fun w8 hs10 => ?_
 refine zE 5 (hK5 _ _ ?_)
 refine W.seq fun K11 hK11 => ?_
 refine W.sr fun K12 hK12 => ?_
 refine zE 2 (hK12 _ _ ?_)
 refine W.cond (!decide (r6.2 = 0)) (by kernel_rfl) (fun h13 => ?_) (fun h13 => ?_)
 rotate_left
 ·
  have h13p : r6.2 = 0 := of_decide_eq_true (bnot_false h13)
  replace hm := ite_yes hm h13p
  refine W.skip ?_
  refine hK11 _ _ ?_
  refine W.sr fun K14 hK14 => ?_
  refine zR 2 ?_
  refine zC00 hs10 (get_spec (at_ := r6.1) (hv := (viewAt_old hs10 hv)) B _) fun w15 hs17 => ?_
  refine zE 1 (hK14 _ _ ?_)
  refine W.seq fun K18 hK18 => ?_
  refine W.sr fun K19 hK19 => ?_
  refine zE 2 (hK19 _ _ ?_)
  refine W.cond (decide ((vget img l r6.1) > 1)) (by kernel_rfl) (fun h20 => ?_) (fun h20 => ?_)
  ·
   obtain ⟨h20p, hm⟩ := iY hm h20
   refine W.sr fun K21 hK21 => ?_
   refine zR 1 ?_
   refine ops_store (off := 0) (cs := [(.bool false), (.int .u64 0), (.int .u64 0)]) (vs := [(.bool false), (.int .u64 0), (.int .u64 0)]) hs17 (by kernel_rfl) (by simp) rfl (fun w22 hs23 => ?_)
   have hs24 : St B w [] w22 [blk b4 (.cells [(.bool false), (.int .u64 0), (.int .u64 0)].toArray 48 (0, 0))] := hs23
   refine zE 1 (hK21 _ _ ?_)
   refine W.ret (ret_seq ?_)
   obtain rfl := some_inj hm
   have hs25 := St.tk0 hs24
   refine ret_of (.tuple #[(.agg #[(.bool false), (.int .u64 0), (.int .u64 0)]), (.int .i64 4)]) (resS_of (by kernel_rfl) (resD_two rfl (.agg (ad := ⟨b4, 0, none⟩) (cs := [(.bool false), (.int .u64 0), (.int .u64 0)]) (by kernel_rfl) (by kernel_rfl) (cells_sub (hs24.heapAt 0 rfl) rfl)) (.tmp (by kernel_rfl)))) ⟨_, ⟨rfl, rfl⟩, hs25⟩
  ·
   obtain ⟨h20p, hm⟩ := iN hm h20
   refine W.skip ?_
   refine hK18 _ _ ?_
   refine W.sr fun K26 hK26 => ?_
   refine zR 4 ?_
   obtain ⟨h27, hm⟩ := need_some hm
   refine zI _ (wrap_i64 h27.1 h27.2) ?_
   refine zC00 hs17 (get_spec (at_ := (r6.1 + 1)) (hv := (viewAt_old hs17 hv)) B _) fun w28 hs30 => ?_
   refine zR 2 ?_
   obtain ⟨h31, hm⟩ := need_some hm
   refine zI _ (wrap_i64 h31.1 h31.2) ?_
   refine zC00 hs30 (get_spec (at_ := (r6.1 + 2)) (hv := (viewAt_old hs30 hv)) B _) fun w32 hs34 => ?_
   refine zR 1 ?_
   refine ops_store (off := 0) (cs := [(.bool false), (.int .u64 0), (.int .u64 0)]) (vs := [(.bool (decide ((vget img l r6.1) = 1))), (.int .u64 (vget img l (r6.1 + 1))), (.int .u64 (vget img l (r6.1 + 2)))]) hs34 (by kernel_rfl) (by simp) rfl (fun w35 hs36 => ?_)
   have hs37 : St B w [] w35 [blk b4 (.cells [(.bool (decide ((vget img l r6.1) = 1))), (.int .u64 (vget img l (r6.1 + 1))), (.int .u64 (vget img l (r6.1 + 2)))].toArray 48 (0, 0))] := hs36
   refine zE 1 (hK26 _ _ ?_)
   refine W.ret ?_
   obtain rfl := some_inj hm
   have hs38 := St.tk0 hs37
   refine ret_of (.tuple #[(.agg #[(.bool (decide ((vget img l r6.1) = 1))), (.int .u64 (vget img l (r6.1 + 1))), (.int .u64 (vget img l (r6.1 + 2)))]), (.int .i64 0)]) (resS_of (by kernel_rfl) (resD_two rfl (.agg (ad := ⟨b4, 0, none⟩) (cs := [(.bool (decide ((vget img l r6.1) = 1))), (.int .u64 (vget img l (r6.1 + 1))), (.int .u64 (vget img l (r6.1 + 2)))]) (by kernel_rfl) (by kernel_rfl) (cells_sub (hs37.heapAt 0 rfl) rfl)) (.tmp (by kernel_rfl)))) ⟨_, ⟨rfl, rfl⟩, hs38⟩
 ·
  have h13p : ¬ (r6.2 = 0) := of_decide_eq_false (bnot_true h13)
  replace hm := ite_no hm h13p
  refine W.sr fun K39 hK39 => ?_
  refine zR 2 ?_
  refine ops_store (off := 0) (cs := [(.bool false), (.int .u64 0), (.int .u64 0)]) (vs := [(.bool false), (.int .u64 0), (.int .u64 0)]) hs10 (by kernel_rfl) (by simp) rfl (fun w40 hs41 => ?_)
  have hs42 : St B w [] w40 [blk b4 (.cells [(.bool false), (.int .u64 0), (.int .u64 0)].toArray 48 (0, 0))] := hs41
  refine zE 1 (hK39 _ _ ?_)
  refine W.ret (ret_seq ?_)
  obtain rfl := some_inj hm
  have hs43 := St.tk0 hs42
  refine ret_of (.tuple #[(.agg #[(.bool false), (.int .u64 0), (.int .u64 0)]), (.int .i64 r6.2)]) (resS_of (by kernel_rfl) (resD_two rfl (.agg (ad := ⟨b4, 0, none⟩) (cs := [(.bool false), (.int .u64 0), (.int .u64 0)]) (by kernel_rfl) (by kernel_rfl) (cells_sub (hs42.heapAt 0 rfl) rfl)) (.tmp (by kernel_rfl)))) ⟨_, ⟨rfl, rfl⟩, hs43⟩

def sput_J1 (img : List Int) (l : List (Int × Int)) (hg_ : Int) (hk_ : Int) (r6 : Int × Int) (p15 : Int) : Option (Int × List (Int × Int)) :=
 need (-9223372036854775808 ≤ (r6.1 + 1) ∧ (r6.1 + 1) ≤ 9223372036854775807) <|
need (-9223372036854775808 ≤ (r6.1 + 2) ∧ (r6.1 + 2) ≤ 9223372036854775807) <|
(some (vsets img l ([(r6.1, p15), ((r6.1 + 1), hg_), ((r6.1 + 2), hk_)]))).bind fun r58 =>
some (r58.1, r58.2)

def sput_M (img : List Int) (l : List (Int × Int)) (i_ : Int) (ho_ : Bool) (hg_ : Int) (hk_ : Int) : Option (Int × List (Int × Int)) :=
 (ssess_M img i_).bind fun r6 =>
if r6.2 = 0 then (if ho_ = true then (sput_J1 img l hg_ hk_ r6 1) else (sput_J1 img l hg_ hk_ r6 0)) else (some (r6.2, l))

theorem sput_walk {img : List Int} {l : List (Int × Int)} {i_ : Int} {ho_ : Bool} {hg_ : Int} {hk_ : Int} {vb : Nat} {r : Int × List (Int × Int)} (B : Nat) (w : World) (hG2 : 1 < B) (hL : CellsAt (some ⟨1, 0, none⟩) [(.int .i64 1), (.int .i64 2), (.int .i64 2)] w) (hm : sput_M img l i_ ho_ hg_ hk_ = some r) : Spec Tryd.prog 32 #[(.pointer (some ⟨vb, 0, none⟩)), (.int .i64 i_), (.agg #[(.bool ho_), (.int .u64 hg_), (.int .u64 hk_)])] B w [viewA (ptr vb) img l] (fun v H' => v = (.int .i64 r.1) ∧ H' = [viewA (ptr vb) img r.2]) := by
 refine spec_W Tryd.func32 rfl fun l0 hs => ?_
 unfold sput_M at hm
 refine W.sr fun K1 hK1 => ?_
 refine zN [(.bool ho_), (.int .u64 hg_), (.int .u64 hk_)] 48 hs fun b4 w2 hs3 => ?_
 refine zE 1 (hK1 _ _ ?_)
 refine W.sr fun K5 hK5 => ?_
 refine zR 2 ?_
 obtain ⟨r6, h7, hm⟩ := bind_some hm
 refine zC00 hs3 (ssess_walk (i_ := i_) (img := img) (l := l) (hL := (hs3.oldCellsB hG2 hL)) (hv := (hs3.entAt 1 rfl viewA_at)) (hm := h7) B _) fun w8 hs10 => ?_
 refine zE 5 (hK5 _ _ ?_)
 refine W.seq fun K11 hK11 => ?_
 refine W.sr fun K12 hK12 => ?_
 refine zE 2 (hK12 _ _ ?_)
 refine W.cond (!decide (r6.2 = 0)) (by kernel_rfl) (fun h13 => ?_) (fun h13 => ?_)
 rotate_left
 ·
  have h13p : r6.2 = 0 := of_decide_eq_true (bnot_false h13)
  replace hm := ite_yes hm h13p
  refine W.skip ?_
  refine hK11 _ _ ?_
  refine W.sr fun K14 hK14 => ?_
  refine zE 1 (hK14 _ _ ?_)
  refine W.seq_join (fun s_ w_ => ∃ (p15 : Int), (∃ us, s_ = slots 37 [(0, (.pointer (some ⟨vb, 0, none⟩))), (5, (.pointer (some ⟨b4, 0, none⟩))), (7, (.int .i64 r6.1)), (9, (.int .u64 p15))] us) ∧ St B w l0 w_ [viewA (ptr vb) img l, blk b4 (.cells [(.bool ho_), (.int .u64 hg_), (.int .u64 hk_)].toArray 48 (0, 0))] ∧ sput_J1 img l hg_ hk_ r6 p15 = some r) ?_ ?_
  ·
   rintro _ w16 ⟨p15, ⟨us, rfl⟩, hs17, hm⟩
   unfold sput_J1 at hm
   refine W.seq fun K18 hK18 => ?_
   have hs19 := hs17.drew
   have hs20 := St.f1 hs19
   have hs21 := St.tk1 hs20
   refine W.regionD [(0, 0), (0, 0), (0, 0), (6, 6), (0, 0), (16, 16), (0, 0), (64, 64), (168, 160), (0, 0), (512, 512), (0, 0), (2048, 2048), (5376, 5120), (8456, 8456), (24577, 16385), (65535, 32768)] (fun w_ => St B w l0 w_ [blk b4 (.cells [(.bool ho_), (.int .u64 hg_), (.int .u64 hk_)].toArray 48 (0, 0))]) (by kernel_rfl) hs21 ?_
   refine any_val (v := (.pointer (some ⟨vb, 0, none⟩))) (v' := (.pointer (some ⟨vb, 0, none⟩))) 0 (by kernel_rfl) (fun _ => by kernel_rfl) rfl hs21 ?_
   refine any_val (v := (.int .i64 r6.1)) (v' := (.int .i64 r6.1)) 1 (by kernel_rfl) (fun _ => by kernel_rfl) rfl hs21 ?_
   refine any_val (v := (.int .u64 p15)) (v' := (.int .u64 p15)) 2 (by kernel_rfl) (fun _ => by kernel_rfl) rfl hs21 ?_
   refine any_val (v := (.int .i64 r6.1)) (v' := (.int .i64 r6.1)) 4 (by kernel_rfl) (fun _ => by kernel_rfl) rfl hs21 ?_
   obtain ⟨h22, hm⟩ := need_some hm
   refine any_val (v := .int .i64 (IntKind.i64.wrap (r6.1 + 1))) (v' := .int .i64 (r6.1 + 1)) 5 (by kernel_rfl) (fun _ => by kernel_rfl) (congrArg (Value.int .i64) (wrap_i64 h22.1 h22.2)) hs21 ?_
   refine any_val (v := (.pointer (some ⟨b4, 1, none⟩))) (v' := (.pointer (some ⟨b4, 1, none⟩))) 6 (by kernel_rfl) (fun _ => by kernel_rfl) rfl hs21 ?_
   refine any_R 7 (by kernel_rfl) (fun _ hS_ => runs_load (ad := ⟨b4, 1, none⟩) (v := (.int .u64 hg_)) (by kernel_rfl) (hS_.cellAt 0 rfl rfl)) hs21 ?_
   refine any_val (v := (.int .i64 r6.1)) (v' := (.int .i64 r6.1)) 9 (by kernel_rfl) (fun _ => by kernel_rfl) rfl hs21 ?_
   obtain ⟨h23, hm⟩ := need_some hm
   refine any_val (v := .int .i64 (IntKind.i64.wrap (r6.1 + 2))) (v' := .int .i64 (r6.1 + 2)) 10 (by kernel_rfl) (fun _ => by kernel_rfl) (congrArg (Value.int .i64) (wrap_i64 h23.1 h23.2)) hs21 ?_
   refine any_val (v := (.pointer (some ⟨b4, 2, none⟩))) (v' := (.pointer (some ⟨b4, 2, none⟩))) 11 (by kernel_rfl) (fun _ => by kernel_rfl) rfl hs21 ?_
   refine any_R 12 (by kernel_rfl) (fun _ hS_ => runs_load (ad := ⟨b4, 2, none⟩) (v := (.int .u64 hk_)) (by kernel_rfl) (hS_.cellAt 0 rfl rfl)) hs21 ?_
   refine any_step 3 (by kernel_rfl) (by kernel_rfl) ?_
   refine ops_call0 hs19 (by kernel_rfl) (word_spec (at_ := r6.1) (x_ := p15) B _) ?_
   rintro _ _ w26 ⟨b24, b25, rfl, rfl⟩ hs27
   have hs28 := St.ap2 hs27
   have hs29 := St.f3 hs28
   have hs30 := St.tk1 hs29
   refine ops_done (by kernel_rfl) ⟨hs30, ?_⟩
   refine any_step 8 (by kernel_rfl) (by kernel_rfl) ?_
   refine ops_call0 hs28 (by kernel_rfl) (word_spec (at_ := (r6.1 + 1)) (x_ := hg_) B _) ?_
   rintro _ _ w33 ⟨b31, b32, rfl, rfl⟩ hs34
   have hs35 := St.ap2 hs34
   have hs36 := St.f5 hs35
   have hs37 := St.tk1 hs36
   refine ops_done (by kernel_rfl) ⟨hs37, ?_⟩
   refine any_step 13 (by kernel_rfl) (by kernel_rfl) ?_
   refine ops_call0 hs35 (by kernel_rfl) (word_spec (at_ := (r6.1 + 2)) (x_ := hk_) B _) ?_
   rintro _ _ w40 ⟨b38, b39, rfl, rfl⟩ hs41
   have hs42 := St.ap2 hs41
   have hs43 := St.f7 hs42
   have hs44 := St.tk1 hs43
   refine ops_done (by kernel_rfl) ⟨hs44, ?_⟩
   refine any_step 14 (by kernel_rfl) (by kernel_rfl) ?_
   refine ops_new (fun b => .slice (some ⟨b, 0, none⟩) 3 3) (.cells [(.func (.func 144) #[] #[(.pointer (some ⟨b24, 0, none⟩)), (.pointer (some ⟨b25, 0, none⟩))]), (.func (.func 144) #[] #[(.pointer (some ⟨b31, 0, none⟩)), (.pointer (some ⟨b32, 0, none⟩))]), (.func (.func 144) #[] #[(.pointer (some ⟨b38, 0, none⟩)), (.pointer (some ⟨b39, 0, none⟩))])].toArray 172 (0, 0)) hs42 (by kernel_rfl) (fun b47 w45 hs46 => ?_)
   have hs48 := St.f8 hs46
   have hs49 := St.tk1 hs48
   refine ops_done (by kernel_rfl) ⟨hs49, ?_⟩
   refine any_step 15 (by kernel_rfl) (by kernel_rfl) ?_
   have hs50 := St.f2 hs46
   have hs51 := St.f2 hs50
   have hs52 := St.f4 hs51
   have hs53 := St.f4 hs52
   have hs54 := St.f6 hs53
   have hs55 := St.f6 hs54
   have hs56 := St.f6 hs55
   have hs57 := St.steps_three hs56
   obtain ⟨r58, h59, hm⟩ := bind_some hm
   replace h59 := some_inj h59
   have hs62 := St.f1 hs57
   refine ops_call2 hs62 (by kernel_rfl) (row_spec (b := vb) (img := img) (l := l) (a := (some ⟨b47, 0, none⟩)) (c := 3) (n := 3) (xs := [(r6.1, p15), ((r6.1 + 1), hg_), ((r6.1 + 2), hk_)]) (hn := rfl) (hsz := (by simp only [List.length_cons, List.length_nil]; omega)) B _) ?_
   rintro _ _ w63 ⟨hv60, hH61⟩ hs64
   rw [h59] at hv60
   try rw [h59] at hH61
   subst hv60 hH61
   have hs65 := St.ap1 hs64
   have hs66 := St.f1 hs65
   have hs67 := St.tk1 hs66
   refine ops_done (by kernel_rfl) ⟨hs67, ?_⟩
   refine any_val (v := (.int .i64 r58.1)) (v' := (.int .i64 r58.1)) 16 (by kernel_rfl) (fun _ => by kernel_rfl) rfl hs67 ?_
   refine any_done (by kernel_rfl) ?_
   refine hK18 _ _ ?_
   refine W.ret ?_
   obtain rfl := some_inj hm
   have hs68 := St.tk1 hs65
   refine ret_of (.int .i64 r58.1) (by kernel_rfl) ⟨_, ⟨rfl, rfl⟩, hs68⟩
  ·
   refine W.sr fun K69 hK69 => ?_
   refine zR 1 ?_
   refine zL ⟨b4, 0, none⟩ (.bool ho_) (hs10.cellAt 0 rfl rfl) ?_
   refine zD (hK69 _ _ ?_)
   refine W.cond ho_ (by kernel_rfl) (fun h70 => ?_) (fun h70 => ?_)
   ·
    have h70p : ho_ = true := h70
    replace hm := ite_yes hm h70p
    refine W.region ?_
    refine zE 1 ?_
    have hs71 := St.f1 hs10
    exact ⟨1, slots_intro _ (by kernel_rfl), hs71, hm⟩
   ·
    have h70p : ¬ (ho_ = true) := ne_true_of_eq_false h70
    replace hm := ite_no hm h70p
    refine W.skip ?_
    have hs72 := St.f1 hs10
    exact ⟨0, slots_intro _ (by kernel_rfl), hs72, hm⟩
 ·
  have h13p : ¬ (r6.2 = 0) := of_decide_eq_false (bnot_true h13)
  replace hm := ite_no hm h13p
  refine W.sr fun K73 hK73 => ?_
  refine zE 2 (hK73 _ _ ?_)
  refine W.ret (ret_seq ?_)
  obtain rfl := some_inj hm
  have hs74 := St.f1 hs10
  have hs75 := St.tk1 hs74
  refine ret_of (.int .i64 r6.2) (by kernel_rfl) ⟨_, ⟨rfl, rfl⟩, hs75⟩

def swipe_M (img : List Int) (l : List (Int × Int)) (i_ : Int) : Option (Int × List (Int × Int)) :=
 (ssess_M img i_).bind fun r3 =>
if r3.2 = 0 then (need (-9223372036854775808 ≤ ((descAt i_ 0) + 1) ∧ ((descAt i_ 0) + 1) ≤ 9223372036854775807) <|
need (-9223372036854775808 ≤ ((descAt i_ 1) + 1) ∧ ((descAt i_ 1) + 1) ≤ 9223372036854775807) <|
need (-9223372036854775808 ≤ ((descAt i_ 2) + 1) ∧ ((descAt i_ 2) + 1) ≤ 9223372036854775807) <|
need (-9223372036854775808 ≤ ((descAt i_ 3) + 1) ∧ ((descAt i_ 3) + 1) ≤ 9223372036854775807) <|
(some (vsets img l ([((slotAt i_ 0), 0), ((slotAt i_ 1), 0), ((slotAt i_ 2), 0), ((slotAt i_ 3), 0), ((descAt i_ 0), 0), (((descAt i_ 0) + 1), 0), ((descAt i_ 1), 0), (((descAt i_ 1) + 1), 0), ((descAt i_ 2), 0), (((descAt i_ 2) + 1), 0), ((descAt i_ 3), 0), (((descAt i_ 3) + 1), 0)]))).bind fun r250 =>
some (r250.1, r250.2)) else (some (r3.2, l))

theorem swipe_walk {img : List Int} {l : List (Int × Int)} {i_ : Int} {vb : Nat} {r : Int × List (Int × Int)} (B : Nat) (w : World) (hG2 : 1 < B) (hL : CellsAt (some ⟨1, 0, none⟩) [(.int .i64 1), (.int .i64 2), (.int .i64 2)] w) (hm : swipe_M img l i_ = some r) : Spec Tryd.prog 34 #[(.pointer (some ⟨vb, 0, none⟩)), (.int .i64 i_)] B w [viewA (ptr vb) img l] (fun v H' => v = (.int .i64 r.1) ∧ H' = [viewA (ptr vb) img r.2]) := by
 refine spec_W Tryd.func34 rfl fun l0 hs => ?_
 unfold swipe_M at hm
 refine W.sr fun K1 hK1 => ?_
 refine zE 1 (hK1 _ _ ?_)
 refine W.sr fun K2 hK2 => ?_
 refine zR 2 ?_
 obtain ⟨r3, h4, hm⟩ := bind_some hm
 refine zC00 hs (ssess_walk (i_ := i_) (img := img) (l := l) (hL := (hs.oldCellsB hG2 hL)) (hv := (hs.entAt 0 rfl viewA_at)) (hm := h4) B _) fun w5 hs7 => ?_
 refine zE 5 (hK2 _ _ ?_)
 refine W.seq fun K8 hK8 => ?_
 refine W.sr fun K9 hK9 => ?_
 refine zE 2 (hK9 _ _ ?_)
 refine W.cond (!decide (r3.2 = 0)) (by kernel_rfl) (fun h10 => ?_) (fun h10 => ?_)
 rotate_left
 ·
  have h10p : r3.2 = 0 := of_decide_eq_true (bnot_false h10)
  replace hm := ite_yes hm h10p
  refine W.skip ?_
  refine hK8 _ _ ?_
  refine W.sr fun K11 hK11 => ?_
  refine zE 1 (hK11 _ _ ?_)
  refine W.seq fun K12 hK12 => ?_
  refine W.sr fun K13 hK13 => ?_
  refine zE 1 (hK13 _ _ ?_)
  refine W.block ?_
  refine W.loop_start ?_
  refine loopAt_round ?_
  refine W.sr fun K14 hK14 => ?_
  refine zE 1 (hK14 _ _ ?_)
  refine W.seq fun K15 hK15 => ?_
  refine W.cond_true true (by kernel_rfl) rfl ?_
  refine W.skip ?_
  refine hK15 _ _ ?_
  refine W.seq fun K16 hK16 => ?_
  refine W.block ?_
  refine W.sr fun K17 hK17 => ?_
  refine zE 2 (hK17 _ _ ?_)
  refine W.region ?_
  refine zR 3 ?_
  refine zC00 hs7 (slotat_spec (i_ := i_) (k_ := 0) (hL := (hs7.oldCellsB hG2 hL)) B _) fun w18 hs20 => ?_
  refine ops_call0 hs20 (by kernel_rfl) (word_spec (at_ := (slotAt i_ 0)) (x_ := 0) B _) ?_
  rintro _ _ w23 ⟨b21, b22, rfl, rfl⟩ hs24
  have hs25 := St.ap2 hs24
  refine ops_new (fun b => .slice (some ⟨b, 0, none⟩) 1 1) (.cells [(.func (.func 144) #[] #[(.pointer (some ⟨b21, 0, none⟩)), (.pointer (some ⟨b22, 0, none⟩))])].toArray 172 (0, 0)) hs25 (by kernel_rfl) (fun b28 w26 hs27 => ?_)
  have hs29 := St.steps_nil hs27
  have hs30 := St.f3 hs29
  have hs31 := St.f3 hs30
  have hs32 := St.f3 hs31
  have hs33 := St.f3 hs32
  refine ops_appendSteps (bytes := 8) (a := none) (c := 0) (sb := b28) (b1 := b21) (b2 := b22) (xs := []) (x := (slotAt i_ 0)) (y := 0) hs33 (by kernel_rfl) (by unfold maxLen; simp only [List.length_cons, List.length_nil]; omega) (by simp only [List.length_cons, List.length_nil]; omega) (fun a34 c35 w36 hs37 => ?_)
  have hs38 : St B w l0 w36 [stepsA a34 c35 ([((slotAt i_ 0), 0)]), viewA (ptr vb) img l] := hs37
  refine zE 1 ?_
  refine normal_block ?_
  refine hK16 _ _ ?_
  refine W.region ?_
  refine zE 2 ?_
  refine loopAt_next ?_
  refine loopAt_round ?_
  refine W.sr fun K39 hK39 => ?_
  refine zE 1 (hK39 _ _ ?_)
  refine W.seq fun K40 hK40 => ?_
  refine W.cond_true true (by kernel_rfl) rfl ?_
  refine W.skip ?_
  refine hK40 _ _ ?_
  refine W.seq fun K41 hK41 => ?_
  refine W.block ?_
  refine W.sr fun K42 hK42 => ?_
  refine zE 2 (hK42 _ _ ?_)
  refine W.region ?_
  refine zR 3 ?_
  refine zC00 hs38 (slotat_spec (i_ := i_) (k_ := 1) (hL := (hs38.oldCellsB hG2 hL)) B _) fun w43 hs45 => ?_
  refine ops_call0 hs45 (by kernel_rfl) (word_spec (at_ := (slotAt i_ 1)) (x_ := 0) B _) ?_
  rintro _ _ w48 ⟨b46, b47, rfl, rfl⟩ hs49
  have hs50 := St.ap2 hs49
  refine ops_new (fun b => .slice (some ⟨b, 0, none⟩) 1 1) (.cells [(.func (.func 144) #[] #[(.pointer (some ⟨b46, 0, none⟩)), (.pointer (some ⟨b47, 0, none⟩))])].toArray 172 (0, 0)) hs50 (by kernel_rfl) (fun b53 w51 hs52 => ?_)
  have hs54 := St.f2 hs52
  have hs55 := St.f2 hs54
  have hs56 := St.f2 hs55
  have hs57 := St.f3 hs56
  refine ops_appendSteps (bytes := 8) (a := a34) (c := c35) (sb := b53) (b1 := b46) (b2 := b47) (xs := [((slotAt i_ 0), 0)]) (x := (slotAt i_ 1)) (y := 0) hs57 (by kernel_rfl) (by unfold maxLen; simp only [List.length_cons, List.length_nil]; omega) (by simp only [List.length_cons, List.length_nil]; omega) (fun a58 c59 w60 hs61 => ?_)
  have hs62 : St B w l0 w60 [stepsA a58 c59 ([((slotAt i_ 0), 0), ((slotAt i_ 1), 0)]), viewA (ptr vb) img l] := hs61
  refine zE 1 ?_
  refine normal_block ?_
  refine hK41 _ _ ?_
  refine W.region ?_
  refine zE 2 ?_
  refine loopAt_next ?_
  refine loopAt_round ?_
  refine W.sr fun K63 hK63 => ?_
  refine zE 1 (hK63 _ _ ?_)
  refine W.seq fun K64 hK64 => ?_
  refine W.cond_true true (by kernel_rfl) rfl ?_
  refine W.skip ?_
  refine hK64 _ _ ?_
  refine W.seq fun K65 hK65 => ?_
  refine W.block ?_
  refine W.sr fun K66 hK66 => ?_
  refine zE 2 (hK66 _ _ ?_)
  refine W.region ?_
  refine zR 3 ?_
  refine zC00 hs62 (slotat_spec (i_ := i_) (k_ := 2) (hL := (hs62.oldCellsB hG2 hL)) B _) fun w67 hs69 => ?_
  refine ops_call0 hs69 (by kernel_rfl) (word_spec (at_ := (slotAt i_ 2)) (x_ := 0) B _) ?_
  rintro _ _ w72 ⟨b70, b71, rfl, rfl⟩ hs73
  have hs74 := St.ap2 hs73
  refine ops_new (fun b => .slice (some ⟨b, 0, none⟩) 1 1) (.cells [(.func (.func 144) #[] #[(.pointer (some ⟨b70, 0, none⟩)), (.pointer (some ⟨b71, 0, none⟩))])].toArray 172 (0, 0)) hs74 (by kernel_rfl) (fun b77 w75 hs76 => ?_)
  have hs78 := St.f2 hs76
  have hs79 := St.f2 hs78
  have hs80 := St.f2 hs79
  have hs81 := St.f3 hs80
  refine ops_appendSteps (bytes := 8) (a := a58) (c := c59) (sb := b77) (b1 := b70) (b2 := b71) (xs := [((slotAt i_ 0), 0), ((slotAt i_ 1), 0)]) (x := (slotAt i_ 2)) (y := 0) hs81 (by kernel_rfl) (by unfold maxLen; simp only [List.length_cons, List.length_nil]; omega) (by simp only [List.length_cons, List.length_nil]; omega) (fun a82 c83 w84 hs85 => ?_)
  have hs86 : St B w l0 w84 [stepsA a82 c83 ([((slotAt i_ 0), 0), ((slotAt i_ 1), 0), ((slotAt i_ 2), 0)]), viewA (ptr vb) img l] := hs85
  refine zE 1 ?_
  refine normal_block ?_
  refine hK65 _ _ ?_
  refine W.region ?_
  refine zE 2 ?_
  refine loopAt_next ?_
  refine loopAt_round ?_
  refine W.sr fun K87 hK87 => ?_
  refine zE 1 (hK87 _ _ ?_)
  refine W.seq fun K88 hK88 => ?_
  refine W.cond_true true (by kernel_rfl) rfl ?_
  refine W.skip ?_
  refine hK88 _ _ ?_
  refine W.seq fun K89 hK89 => ?_
  refine W.block ?_
  refine W.sr fun K90 hK90 => ?_
  refine zE 2 (hK90 _ _ ?_)
  refine W.region ?_
  refine zR 3 ?_
  refine zC00 hs86 (slotat_spec (i_ := i_) (k_ := 3) (hL := (hs86.oldCellsB hG2 hL)) B _) fun w91 hs93 => ?_
  refine ops_call0 hs93 (by kernel_rfl) (word_spec (at_ := (slotAt i_ 3)) (x_ := 0) B _) ?_
  rintro _ _ w96 ⟨b94, b95, rfl, rfl⟩ hs97
  have hs98 := St.ap2 hs97
  refine ops_new (fun b => .slice (some ⟨b, 0, none⟩) 1 1) (.cells [(.func (.func 144) #[] #[(.pointer (some ⟨b94, 0, none⟩)), (.pointer (some ⟨b95, 0, none⟩))])].toArray 172 (0, 0)) hs98 (by kernel_rfl) (fun b101 w99 hs100 => ?_)
  have hs102 := St.f2 hs100
  have hs103 := St.f2 hs102
  have hs104 := St.f2 hs103
  have hs105 := St.f3 hs104
  refine ops_appendSteps (bytes := 8) (a := a82) (c := c83) (sb := b101) (b1 := b94) (b2 := b95) (xs := [((slotAt i_ 0), 0), ((slotAt i_ 1), 0), ((slotAt i_ 2), 0)]) (x := (slotAt i_ 3)) (y := 0) hs105 (by kernel_rfl) (by unfold maxLen; simp only [List.length_cons, List.length_nil]; omega) (by simp only [List.length_cons, List.length_nil]; omega) (fun a106 c107 w108 hs109 => ?_)
  have hs110 : St B w l0 w108 [stepsA a106 c107 ([((slotAt i_ 0), 0), ((slotAt i_ 1), 0), ((slotAt i_ 2), 0), ((slotAt i_ 3), 0)]), viewA (ptr vb) img l] := hs109
  refine zE 1 ?_
  refine normal_block ?_
  refine hK89 _ _ ?_
  refine W.region ?_
  refine zE 2 ?_
  refine loopAt_next ?_
  refine loopAt_round ?_
  refine W.sr fun K111 hK111 => ?_
  refine zE 1 (hK111 _ _ ?_)
  refine W.seq fun K112 hK112 => ?_
  refine W.cond_false false (by kernel_rfl) rfl ?_
  refine W.exit (exit_seq (exit_seq (exit_here ?_)))
  refine hK12 _ _ ?_
  refine W.seq fun K113 hK113 => ?_
  refine W.sr fun K114 hK114 => ?_
  refine zE 1 (hK114 _ _ ?_)
  refine W.block ?_
  refine W.loop_start ?_
  refine loopAt_round ?_
  refine W.sr fun K115 hK115 => ?_
  refine zE 1 (hK115 _ _ ?_)
  refine W.seq fun K116 hK116 => ?_
  refine W.cond_true true (by kernel_rfl) rfl ?_
  refine W.skip ?_
  refine hK116 _ _ ?_
  refine W.seq fun K117 hK117 => ?_
  refine W.block ?_
  refine W.sr fun K118 hK118 => ?_
  refine zE 2 (hK118 _ _ ?_)
  refine W.sr fun K119 hK119 => ?_
  refine zR 2 ?_
  refine zC00 hs110 (descat_spec (i_ := i_) (k_ := 0) (hL := (hs110.oldCellsB hG2 hL)) B _) fun w120 hs122 => ?_
  refine zE 1 (hK119 _ _ ?_)
  refine W.region ?_
  refine zR 2 ?_
  refine ops_call0 hs122 (by kernel_rfl) (word_spec (at_ := (descAt i_ 0)) (x_ := 0) B _) ?_
  rintro _ _ w125 ⟨b123, b124, rfl, rfl⟩ hs126
  have hs127 := St.ap2 hs126
  refine zR 1 ?_
  obtain ⟨h128, hm⟩ := need_some hm
  refine zI _ (wrap_i64 h128.1 h128.2) ?_
  refine ops_call0 hs127 (by kernel_rfl) (word_spec (at_ := ((descAt i_ 0) + 1)) (x_ := 0) B _) ?_
  rintro _ _ w131 ⟨b129, b130, rfl, rfl⟩ hs132
  have hs133 := St.ap2 hs132
  refine ops_new (fun b => .slice (some ⟨b, 0, none⟩) 2 2) (.cells [(.func (.func 144) #[] #[(.pointer (some ⟨b123, 0, none⟩)), (.pointer (some ⟨b124, 0, none⟩))]), (.func (.func 144) #[] #[(.pointer (some ⟨b129, 0, none⟩)), (.pointer (some ⟨b130, 0, none⟩))])].toArray 172 (0, 0)) hs133 (by kernel_rfl) (fun b136 w134 hs135 => ?_)
  have hs137 := St.f2 hs135
  have hs138 := St.f2 hs137
  have hs139 := St.f4 hs138
  have hs140 := St.f4 hs139
  have hs141 := St.f4 hs140
  have hs142 := St.f5 hs141
  refine ops_appendSteps2 (bytes := 8) (a := a106) (c := c107) (sb := b136) (b1 := b123) (b2 := b124) (b3 := b129) (b4 := b130) (xs := [((slotAt i_ 0), 0), ((slotAt i_ 1), 0), ((slotAt i_ 2), 0), ((slotAt i_ 3), 0)]) (x := (descAt i_ 0)) (y := 0) (x' := ((descAt i_ 0) + 1)) (y' := 0) hs142 (by kernel_rfl) (by unfold maxLen; simp only [List.length_cons, List.length_nil]; omega) (by simp only [List.length_cons, List.length_nil]; omega) (fun a143 c144 w145 hs146 => ?_)
  have hs147 : St B w l0 w145 [stepsA a143 c144 ([((slotAt i_ 0), 0), ((slotAt i_ 1), 0), ((slotAt i_ 2), 0), ((slotAt i_ 3), 0), ((descAt i_ 0), 0), (((descAt i_ 0) + 1), 0)]), viewA (ptr vb) img l] := hs146
  refine zE 1 ?_
  refine normal_block ?_
  refine hK117 _ _ ?_
  refine W.region ?_
  refine zE 2 ?_
  refine loopAt_next ?_
  refine loopAt_round ?_
  refine W.sr fun K148 hK148 => ?_
  refine zE 1 (hK148 _ _ ?_)
  refine W.seq fun K149 hK149 => ?_
  refine W.cond_true true (by kernel_rfl) rfl ?_
  refine W.skip ?_
  refine hK149 _ _ ?_
  refine W.seq fun K150 hK150 => ?_
  refine W.block ?_
  refine W.sr fun K151 hK151 => ?_
  refine zE 2 (hK151 _ _ ?_)
  refine W.sr fun K152 hK152 => ?_
  refine zR 2 ?_
  refine zC00 hs147 (descat_spec (i_ := i_) (k_ := 1) (hL := (hs147.oldCellsB hG2 hL)) B _) fun w153 hs155 => ?_
  refine zE 1 (hK152 _ _ ?_)
  refine W.region ?_
  refine zR 2 ?_
  refine ops_call0 hs155 (by kernel_rfl) (word_spec (at_ := (descAt i_ 1)) (x_ := 0) B _) ?_
  rintro _ _ w158 ⟨b156, b157, rfl, rfl⟩ hs159
  have hs160 := St.ap2 hs159
  refine zR 1 ?_
  obtain ⟨h161, hm⟩ := need_some hm
  refine zI _ (wrap_i64 h161.1 h161.2) ?_
  refine ops_call0 hs160 (by kernel_rfl) (word_spec (at_ := ((descAt i_ 1) + 1)) (x_ := 0) B _) ?_
  rintro _ _ w164 ⟨b162, b163, rfl, rfl⟩ hs165
  have hs166 := St.ap2 hs165
  refine ops_new (fun b => .slice (some ⟨b, 0, none⟩) 2 2) (.cells [(.func (.func 144) #[] #[(.pointer (some ⟨b156, 0, none⟩)), (.pointer (some ⟨b157, 0, none⟩))]), (.func (.func 144) #[] #[(.pointer (some ⟨b162, 0, none⟩)), (.pointer (some ⟨b163, 0, none⟩))])].toArray 172 (0, 0)) hs166 (by kernel_rfl) (fun b169 w167 hs168 => ?_)
  have hs170 := St.f2 hs168
  have hs171 := St.f2 hs170
  have hs172 := St.f4 hs171
  have hs173 := St.f4 hs172
  have hs174 := St.f4 hs173
  have hs175 := St.f5 hs174
  refine ops_appendSteps2 (bytes := 8) (a := a143) (c := c144) (sb := b169) (b1 := b156) (b2 := b157) (b3 := b162) (b4 := b163) (xs := [((slotAt i_ 0), 0), ((slotAt i_ 1), 0), ((slotAt i_ 2), 0), ((slotAt i_ 3), 0), ((descAt i_ 0), 0), (((descAt i_ 0) + 1), 0)]) (x := (descAt i_ 1)) (y := 0) (x' := ((descAt i_ 1) + 1)) (y' := 0) hs175 (by kernel_rfl) (by unfold maxLen; simp only [List.length_cons, List.length_nil]; omega) (by simp only [List.length_cons, List.length_nil]; omega) (fun a176 c177 w178 hs179 => ?_)
  have hs180 : St B w l0 w178 [stepsA a176 c177 ([((slotAt i_ 0), 0), ((slotAt i_ 1), 0), ((slotAt i_ 2), 0), ((slotAt i_ 3), 0), ((descAt i_ 0), 0), (((descAt i_ 0) + 1), 0), ((descAt i_ 1), 0), (((descAt i_ 1) + 1), 0)]), viewA (ptr vb) img l] := hs179
  refine zE 1 ?_
  refine normal_block ?_
  refine hK150 _ _ ?_
  refine W.region ?_
  refine zE 2 ?_
  refine loopAt_next ?_
  refine loopAt_round ?_
  refine W.sr fun K181 hK181 => ?_
  refine zE 1 (hK181 _ _ ?_)
  refine W.seq fun K182 hK182 => ?_
  refine W.cond_true true (by kernel_rfl) rfl ?_
  refine W.skip ?_
  refine hK182 _ _ ?_
  refine W.seq fun K183 hK183 => ?_
  refine W.block ?_
  refine W.sr fun K184 hK184 => ?_
  refine zE 2 (hK184 _ _ ?_)
  refine W.sr fun K185 hK185 => ?_
  refine zR 2 ?_
  refine zC00 hs180 (descat_spec (i_ := i_) (k_ := 2) (hL := (hs180.oldCellsB hG2 hL)) B _) fun w186 hs188 => ?_
  refine zE 1 (hK185 _ _ ?_)
  refine W.region ?_
  refine zR 2 ?_
  refine ops_call0 hs188 (by kernel_rfl) (word_spec (at_ := (descAt i_ 2)) (x_ := 0) B _) ?_
  rintro _ _ w191 ⟨b189, b190, rfl, rfl⟩ hs192
  have hs193 := St.ap2 hs192
  refine zR 1 ?_
  obtain ⟨h194, hm⟩ := need_some hm
  refine zI _ (wrap_i64 h194.1 h194.2) ?_
  refine ops_call0 hs193 (by kernel_rfl) (word_spec (at_ := ((descAt i_ 2) + 1)) (x_ := 0) B _) ?_
  rintro _ _ w197 ⟨b195, b196, rfl, rfl⟩ hs198
  have hs199 := St.ap2 hs198
  refine ops_new (fun b => .slice (some ⟨b, 0, none⟩) 2 2) (.cells [(.func (.func 144) #[] #[(.pointer (some ⟨b189, 0, none⟩)), (.pointer (some ⟨b190, 0, none⟩))]), (.func (.func 144) #[] #[(.pointer (some ⟨b195, 0, none⟩)), (.pointer (some ⟨b196, 0, none⟩))])].toArray 172 (0, 0)) hs199 (by kernel_rfl) (fun b202 w200 hs201 => ?_)
  have hs203 := St.f2 hs201
  have hs204 := St.f2 hs203
  have hs205 := St.f4 hs204
  have hs206 := St.f4 hs205
  have hs207 := St.f4 hs206
  have hs208 := St.f5 hs207
  refine ops_appendSteps2 (bytes := 8) (a := a176) (c := c177) (sb := b202) (b1 := b189) (b2 := b190) (b3 := b195) (b4 := b196) (xs := [((slotAt i_ 0), 0), ((slotAt i_ 1), 0), ((slotAt i_ 2), 0), ((slotAt i_ 3), 0), ((descAt i_ 0), 0), (((descAt i_ 0) + 1), 0), ((descAt i_ 1), 0), (((descAt i_ 1) + 1), 0)]) (x := (descAt i_ 2)) (y := 0) (x' := ((descAt i_ 2) + 1)) (y' := 0) hs208 (by kernel_rfl) (by unfold maxLen; simp only [List.length_cons, List.length_nil]; omega) (by simp only [List.length_cons, List.length_nil]; omega) (fun a209 c210 w211 hs212 => ?_)
  have hs213 : St B w l0 w211 [stepsA a209 c210 ([((slotAt i_ 0), 0), ((slotAt i_ 1), 0), ((slotAt i_ 2), 0), ((slotAt i_ 3), 0), ((descAt i_ 0), 0), (((descAt i_ 0) + 1), 0), ((descAt i_ 1), 0), (((descAt i_ 1) + 1), 0), ((descAt i_ 2), 0), (((descAt i_ 2) + 1), 0)]), viewA (ptr vb) img l] := hs212
  refine zE 1 ?_
  refine normal_block ?_
  refine hK183 _ _ ?_
  refine W.region ?_
  refine zE 2 ?_
  refine loopAt_next ?_
  refine loopAt_round ?_
  refine W.sr fun K214 hK214 => ?_
  refine zE 1 (hK214 _ _ ?_)
  refine W.seq fun K215 hK215 => ?_
  refine W.cond_true true (by kernel_rfl) rfl ?_
  refine W.skip ?_
  refine hK215 _ _ ?_
  refine W.seq fun K216 hK216 => ?_
  refine W.block ?_
  refine W.sr fun K217 hK217 => ?_
  refine zE 2 (hK217 _ _ ?_)
  refine W.sr fun K218 hK218 => ?_
  refine zR 2 ?_
  refine zC00 hs213 (descat_spec (i_ := i_) (k_ := 3) (hL := (hs213.oldCellsB hG2 hL)) B _) fun w219 hs221 => ?_
  refine zE 1 (hK218 _ _ ?_)
  refine W.region ?_
  refine zR 2 ?_
  refine ops_call0 hs221 (by kernel_rfl) (word_spec (at_ := (descAt i_ 3)) (x_ := 0) B _) ?_
  rintro _ _ w224 ⟨b222, b223, rfl, rfl⟩ hs225
  have hs226 := St.ap2 hs225
  refine zR 1 ?_
  obtain ⟨h227, hm⟩ := need_some hm
  refine zI _ (wrap_i64 h227.1 h227.2) ?_
  refine ops_call0 hs226 (by kernel_rfl) (word_spec (at_ := ((descAt i_ 3) + 1)) (x_ := 0) B _) ?_
  rintro _ _ w230 ⟨b228, b229, rfl, rfl⟩ hs231
  have hs232 := St.ap2 hs231
  refine ops_new (fun b => .slice (some ⟨b, 0, none⟩) 2 2) (.cells [(.func (.func 144) #[] #[(.pointer (some ⟨b222, 0, none⟩)), (.pointer (some ⟨b223, 0, none⟩))]), (.func (.func 144) #[] #[(.pointer (some ⟨b228, 0, none⟩)), (.pointer (some ⟨b229, 0, none⟩))])].toArray 172 (0, 0)) hs232 (by kernel_rfl) (fun b235 w233 hs234 => ?_)
  have hs236 := St.f2 hs234
  have hs237 := St.f2 hs236
  have hs238 := St.f4 hs237
  have hs239 := St.f4 hs238
  have hs240 := St.f4 hs239
  have hs241 := St.f5 hs240
  refine ops_appendSteps2 (bytes := 8) (a := a209) (c := c210) (sb := b235) (b1 := b222) (b2 := b223) (b3 := b228) (b4 := b229) (xs := [((slotAt i_ 0), 0), ((slotAt i_ 1), 0), ((slotAt i_ 2), 0), ((slotAt i_ 3), 0), ((descAt i_ 0), 0), (((descAt i_ 0) + 1), 0), ((descAt i_ 1), 0), (((descAt i_ 1) + 1), 0), ((descAt i_ 2), 0), (((descAt i_ 2) + 1), 0)]) (x := (descAt i_ 3)) (y := 0) (x' := ((descAt i_ 3) + 1)) (y' := 0) hs241 (by kernel_rfl) (by unfold maxLen; simp only [List.length_cons, List.length_nil]; omega) (by simp only [List.length_cons, List.length_nil]; omega) (fun a242 c243 w244 hs245 => ?_)
  have hs246 : St B w l0 w244 [stepsA a242 c243 ([((slotAt i_ 0), 0), ((slotAt i_ 1), 0), ((slotAt i_ 2), 0), ((slotAt i_ 3), 0), ((descAt i_ 0), 0), (((descAt i_ 0) + 1), 0), ((descAt i_ 1), 0), (((descAt i_ 1) + 1), 0), ((descAt i_ 2), 0), (((descAt i_ 2) + 1), 0), ((descAt i_ 3), 0), (((descAt i_ 3) + 1), 0)]), viewA (ptr vb) img l] := hs245
  refine zE 1 ?_
  refine normal_block ?_
  refine hK216 _ _ ?_
  refine W.region ?_
  refine zE 2 ?_
  refine loopAt_next ?_
  refine loopAt_round ?_
  refine W.sr fun K247 hK247 => ?_
  refine zE 1 (hK247 _ _ ?_)
  refine W.seq fun K248 hK248 => ?_
  refine W.cond_false false (by kernel_rfl) rfl ?_
  refine W.exit (exit_seq (exit_seq (exit_here ?_)))
  refine hK113 _ _ ?_
  refine W.sr fun K249 hK249 => ?_
  refine zR 2 ?_
  obtain ⟨r250, h251, hm⟩ := bind_some hm
  replace h251 := some_inj h251
  have hs254 := St.f1 hs246
  refine ops_call2 hs254 (by kernel_rfl) (row_spec (b := vb) (img := img) (l := l) (a := a242) (c := c243) (n := [((slotAt i_ 0), 0), ((slotAt i_ 1), 0), ((slotAt i_ 2), 0), ((slotAt i_ 3), 0), ((descAt i_ 0), 0), (((descAt i_ 0) + 1), 0), ((descAt i_ 1), 0), (((descAt i_ 1) + 1), 0), ((descAt i_ 2), 0), (((descAt i_ 2) + 1), 0), ((descAt i_ 3), 0), (((descAt i_ 3) + 1), 0)].length) (xs := [((slotAt i_ 0), 0), ((slotAt i_ 1), 0), ((slotAt i_ 2), 0), ((slotAt i_ 3), 0), ((descAt i_ 0), 0), (((descAt i_ 0) + 1), 0), ((descAt i_ 1), 0), (((descAt i_ 1) + 1), 0), ((descAt i_ 2), 0), (((descAt i_ 2) + 1), 0), ((descAt i_ 3), 0), (((descAt i_ 3) + 1), 0)]) (hn := rfl) (hsz := (by simp only [List.length_cons, List.length_nil]; omega)) B _) ?_
  rintro _ _ w255 ⟨hv252, hH253⟩ hs256
  rw [h251] at hv252
  try rw [h251] at hH253
  subst hv252 hH253
  have hs257 := St.ap1 hs256
  refine zE 1 (hK249 _ _ ?_)
  refine W.ret ?_
  obtain rfl := some_inj hm
  refine ret_of (.int .i64 r250.1) (by kernel_rfl) ⟨_, ⟨rfl, rfl⟩, hs257⟩
 ·
  have h10p : ¬ (r3.2 = 0) := of_decide_eq_false (bnot_true h10)
  replace hm := ite_no hm h10p
  refine W.sr fun K258 hK258 => ?_
  refine zE 2 (hK258 _ _ ?_)
  refine W.ret (ret_seq ?_)
  obtain rfl := some_inj hm
  refine ret_of (.int .i64 r3.2) (by kernel_rfl) ⟨_, ⟨rfl, rfl⟩, hs7⟩

end Go.Proofs.YthimamnblklkbaaDoor

set_option linter.unusedVariables false
set_option maxRecDepth 20000
set_option maxHeartbeats 2000000
namespace Go.Proofs.YthimamnblklkbaaDoor
open Go Go.RowKit
set_option linter.unusedSimpArgs false
set_option linter.unusedVariables false

def sload_J2 (img : List Int) (l : List (Int × Int)) (r6 : Int × Int) (r31 : Int) (r33 : Int) (p36 : Bool) : Option (Int × Int × Int × Int × ByteArray × Int) :=
 if p36 = true then (some (0, 0, 0, 0, ByteArray.empty, 4)) else (need (-9223372036854775808 ≤ (r6.1 + 4) ∧ (r6.1 + 4) ≤ 9223372036854775807) <|
need (-9223372036854775808 ≤ (r6.1 + 5) ∧ (r6.1 + 5) ≤ 9223372036854775807) <|
need (-9223372036854775808 ≤ (r6.1 + 6) ∧ (r6.1 + 6) ≤ 9223372036854775807) <|
need (-9223372036854775808 ≤ (r6.1 + 7) ∧ (r6.1 + 7) ≤ 9223372036854775807) <|
need (-9223372036854775808 ≤ (r6.1 + 8) ∧ (r6.1 + 8) ≤ 9223372036854775807) <|
need (-9223372036854775808 ≤ (r6.1 + 9) ∧ (r6.1 + 9) ≤ 9223372036854775807) <|
need (-9223372036854775808 ≤ (r6.1 + 10) ∧ (r6.1 + 10) ≤ 9223372036854775807) <|
need (-9223372036854775808 ≤ (r6.1 + 11) ∧ (r6.1 + 11) ≤ 9223372036854775807) <|
need (-9223372036854775808 ≤ r33 ∧ r33 ≤ 9223372036854775807) <|
(unpack_M ([(vget img l (r6.1 + 4)), (vget img l (r6.1 + 5)), (vget img l (r6.1 + 6)), (vget img l (r6.1 + 7)), (vget img l (r6.1 + 8)), (vget img l (r6.1 + 9)), (vget img l (r6.1 + 10)), (vget img l (r6.1 + 11))]) r33).bind fun r180 =>
if r180.2 = 0 then (need (-9223372036854775808 ≤ r31 ∧ r31 ≤ 9223372036854775807) <|
need (-9223372036854775808 ≤ (r6.1 + 2) ∧ (r6.1 + 2) ≤ 9223372036854775807) <|
need (-9223372036854775808 ≤ (r6.1 + 3) ∧ (r6.1 + 3) ≤ 9223372036854775807) <|
some ((vget img l r6.1), r31, (vget img l (r6.1 + 2)), (vget img l (r6.1 + 3)), r180.1, 0)) else (some (0, 0, 0, 0, ByteArray.empty, r180.2)))

def sload_J1 (img : List Int) (l : List (Int × Int)) (r6 : Int × Int) (p12 : Bool) : Option (Int × Int × Int × Int × ByteArray × Int) :=
 if p12 = true then (some (0, 0, 0, 0, ByteArray.empty, r6.2)) else (need (-9223372036854775808 ≤ (r6.1 + 1) ∧ (r6.1 + 1) ≤ 9223372036854775807) <|
need (-9223372036854775808 ≤ (r6.1 + 1) ∧ (r6.1 + 1) ≤ 9223372036854775807) <|
need (0 ≤ ((vget img l (r6.1 + 1)).tdiv 256) ∧ ((vget img l (r6.1 + 1)).tdiv 256) ≤ 18446744073709551615) <|
(some ((vget img l (r6.1 + 1)).tmod 256)).bind fun r31 =>
(some ((vget img l (r6.1 + 1)).tdiv 256)).bind fun r33 =>
if r31 > 24 then (sload_J2 img l r6 r31 r33 true) else (sload_J2 img l r6 r31 r33 (decide (r33 > 64))))

def sload_M (img : List Int) (l : List (Int × Int)) (i_ : Int) (k_ : Int) : Option (Int × Int × Int × Int × ByteArray × Int) :=
 (sfind_M img i_ k_).bind fun r6 =>
if r6.2 = 0 then (sload_J1 img l r6 (decide ((vget img l r6.1) = 0))) else (sload_J1 img l r6 true)

theorem sload_walk {img : List Int} {l : List (Int × Int)} {i_ : Int} {k_ : Int} {vb : Nat} {r : Int × Int × Int × Int × ByteArray × Int} (B : Nat) (w : World) (hL : CellsAt (some ⟨1, 0, none⟩) [(.int .i64 1), (.int .i64 2), (.int .i64 2)] w) (hv : ViewAt (ptr vb) img l w) (hm : sload_M img l i_ k_ = some r) : Spec Tryd.prog 31 #[(.pointer (some ⟨vb, 0, none⟩)), (.int .i64 i_), (.int .i64 k_)] B w [] (fun v H' => v = (.tuple #[(.int .u64 r.1), (.agg #[(.int .i64 r.2.1), (.int .u64 r.2.2.1), (.int .u64 r.2.2.2.1), (.string r.2.2.2.2.1)]), (.int .i64 r.2.2.2.2.2)]) ∧ H' = []) := by
 refine spec_Q Tryd.func31 rfl fun hs => ?_
 unfold sload_M at hm
 refine W.sr fun K1 hK1 => ?_
 refine zR 1 ?_
 refine zN [(.int .i64 0), (.int .u64 0), (.int .u64 0), (.string ByteArray.empty)] 46 hs fun b4 w2 hs3 => ?_
 refine zE 1 (hK1 _ _ ?_)
 refine W.sr fun K5 hK5 => ?_
 refine zR 3 ?_
 obtain ⟨r6, h7, hm⟩ := bind_some hm
 refine zC00 hs3 (sfind_walk (i_ := i_) (k_ := k_) (img := img) (l := l) (hL := (hs3.oldCells hL)) (hv := (viewAt_old hs3 hv)) (hm := h7) B _) fun w8 hs10 => ?_
 refine zE 5 (hK5 _ _ ?_)
 refine W.seq fun K11 hK11 => ?_
 refine W.seq_join (fun s_ w_ => ∃ (p12 : Bool), (∃ us, s_ = slots 87 [(0, (.pointer (some ⟨vb, 0, none⟩))), (7, (.pointer (some ⟨b4, 0, none⟩))), (8, (.int .i64 r6.2)), (9, (.int .i64 r6.1)), (29, (.bool p12))] us) ∧ St B w [] w_ [blk b4 (.cells [(.int .i64 0), (.int .u64 0), (.int .u64 0), (.string ByteArray.empty)].toArray 46 (0, 0))] ∧ sload_J1 img l r6 p12 = some r) ?_ ?_
 ·
  rintro _ w13 ⟨p12, ⟨us, rfl⟩, hs14, hm⟩
  unfold sload_J1 at hm
  refine W.cond p12 (by kernel_rfl) (fun h15 => ?_) (fun h15 => ?_)
  ·
   have h15p : p12 = true := h15
   replace hm := ite_yes hm h15p
   refine W.sr fun K16 hK16 => ?_
   refine zR 3 ?_
   refine ops_store (off := 0) (cs := [(.int .i64 0), (.int .u64 0), (.int .u64 0), (.string ByteArray.empty)]) (vs := [(.int .i64 0), (.int .u64 0), (.int .u64 0), (.string ByteArray.empty)]) hs14 (by kernel_rfl) (by simp) rfl (fun w17 hs18 => ?_)
   have hs19 : St B w [] w17 [blk b4 (.cells [(.int .i64 0), (.int .u64 0), (.int .u64 0), (.string ByteArray.empty)].toArray 46 (0, 0))] := hs18
   refine zE 1 (hK16 _ _ ?_)
   refine W.ret (ret_seq ?_)
   obtain rfl := some_inj hm
   have hs20 := St.tk0 hs19
   refine ret_of (.tuple #[(.int .u64 0), (.agg #[(.int .i64 0), (.int .u64 0), (.int .u64 0), (.string ByteArray.empty)]), (.int .i64 r6.2)]) (resS_of (by kernel_rfl) (resD_three rfl (.tmp (by kernel_rfl)) (.agg (ad := ⟨b4, 0, none⟩) (cs := [(.int .i64 0), (.int .u64 0), (.int .u64 0), (.string ByteArray.empty)]) (by kernel_rfl) (by kernel_rfl) (cells_sub (hs19.heapAt 0 rfl) rfl)) (.tmp (by kernel_rfl)))) ⟨_, ⟨rfl, rfl⟩, hs20⟩
  ·
   have h15p : ¬ (p12 = true) := ne_true_of_eq_false h15
   replace hm := ite_no hm h15p
   refine W.skip ?_
   refine hK11 _ _ ?_
   refine W.sr fun K21 hK21 => ?_
   refine zR 2 ?_
   obtain ⟨h22, hm⟩ := need_some hm
   refine zI _ (wrap_i64 h22.1 h22.2) ?_
   refine zC00 hs14 (get_spec (at_ := (r6.1 + 1)) (hv := (viewAt_old hs14 hv)) B _) fun w23 hs25 => ?_
   refine zR 3 ?_
   obtain ⟨h26, hm⟩ := need_some hm
   refine zI _ (wrap_i64 h26.1 h26.2) ?_
   refine zC00 hs25 (get_spec (at_ := (r6.1 + 1)) (hv := (viewAt_old hs25 hv)) B _) fun w27 hs29 => ?_
   obtain ⟨h30, hm⟩ := need_some hm
   refine ops_R (v := .int .u64 ((vget img l (r6.1 + 1)).tdiv 256)) (runs_quo (k := .u64) (a := (vget img l (r6.1 + 1))) (b := 256) (by kernel_rfl) (by decide) (wrap_u64 h30.1 (Int.lt_of_le_of_lt h30.2 (by decide)))) ?_
   refine zR 1 ?_
   obtain ⟨r31, h32, hm⟩ := bind_some hm
   replace h32 := some_inj h32
   refine ops_set 10 (v := .int .u64 r31) (Eq.trans (by kernel_rfl) (congrArg (Value.int .u64) h32)) ?_
   refine zR 1 ?_
   obtain ⟨r33, h34, hm⟩ := bind_some hm
   replace h34 := some_inj h34
   refine ops_set 11 (v := .int .u64 r33) (Eq.trans (by kernel_rfl) (congrArg (Value.int .u64) h34)) ?_
   refine zD (hK21 _ _ ?_)
   refine W.seq fun K35 hK35 => ?_
   refine W.seq_join (fun s_ w_ => ∃ (p36 : Bool), (∃ us, s_ = slots 87 [(0, (.pointer (some ⟨vb, 0, none⟩))), (7, (.pointer (some ⟨b4, 0, none⟩))), (9, (.int .i64 r6.1)), (10, (.int .u64 r31)), (11, (.int .u64 r33)), (47, (.bool p36))] us) ∧ St B w [] w_ [blk b4 (.cells [(.int .i64 0), (.int .u64 0), (.int .u64 0), (.string ByteArray.empty)].toArray 46 (0, 0))] ∧ sload_J2 img l r6 r31 r33 p36 = some r) ?_ ?_
   ·
    rintro _ w37 ⟨p36, ⟨us, rfl⟩, hs38, hm⟩
    unfold sload_J2 at hm
    refine W.cond p36 (by kernel_rfl) (fun h39 => ?_) (fun h39 => ?_)
    ·
     have h39p : p36 = true := h39
     replace hm := ite_yes hm h39p
     refine W.sr fun K40 hK40 => ?_
     refine zR 2 ?_
     refine ops_store (off := 0) (cs := [(.int .i64 0), (.int .u64 0), (.int .u64 0), (.string ByteArray.empty)]) (vs := [(.int .i64 0), (.int .u64 0), (.int .u64 0), (.string ByteArray.empty)]) hs38 (by kernel_rfl) (by simp) rfl (fun w41 hs42 => ?_)
     have hs43 : St B w [] w41 [blk b4 (.cells [(.int .i64 0), (.int .u64 0), (.int .u64 0), (.string ByteArray.empty)].toArray 46 (0, 0))] := hs42
     refine zE 1 (hK40 _ _ ?_)
     refine W.ret (ret_seq ?_)
     obtain rfl := some_inj hm
     have hs44 := St.tk0 hs43
     refine ret_of (.tuple #[(.int .u64 0), (.agg #[(.int .i64 0), (.int .u64 0), (.int .u64 0), (.string ByteArray.empty)]), (.int .i64 4)]) (resS_of (by kernel_rfl) (resD_three rfl (.tmp (by kernel_rfl)) (.agg (ad := ⟨b4, 0, none⟩) (cs := [(.int .i64 0), (.int .u64 0), (.int .u64 0), (.string ByteArray.empty)]) (by kernel_rfl) (by kernel_rfl) (cells_sub (hs43.heapAt 0 rfl) rfl)) (.tmp (by kernel_rfl)))) ⟨_, ⟨rfl, rfl⟩, hs44⟩
    ·
     have h39p : ¬ (p36 = true) := ne_true_of_eq_false h39
     replace hm := ite_no hm h39p
     refine W.skip ?_
     refine hK35 _ _ ?_
     refine W.sr fun K45 hK45 => ?_
     refine zE 1 (hK45 _ _ ?_)
     refine W.seq fun K46 hK46 => ?_
     refine W.sr fun K47 hK47 => ?_
     refine zE 1 (hK47 _ _ ?_)
     refine W.block ?_
     refine W.loop_start ?_
     refine loopAt_round ?_
     refine W.seq fun K48 hK48 => ?_
     refine W.sr fun K49 hK49 => ?_
     refine zE 2 (hK49 _ _ ?_)
     refine W.cond_true true (by kernel_rfl) rfl ?_
     refine W.skip ?_
     refine hK48 _ _ ?_
     refine W.seq fun K50 hK50 => ?_
     refine W.block ?_
     refine W.region ?_
     refine zR 4 ?_
     obtain ⟨h51, hm⟩ := need_some hm
     refine zI _ (wrap_i64 h51.1 h51.2) ?_
     refine zC00 hs38 (get_spec (at_ := (r6.1 + 4)) (hv := (viewAt_old hs38 hv)) B _) fun w52 hs54 => ?_
     refine ops_new (fun b => .slice (some ⟨b, 0, none⟩) 1 1) (.cells [(.int .u64 (vget img l (r6.1 + 4)))].toArray 38 (0, 0)) hs54 (by kernel_rfl) (fun b57 w55 hs56 => ?_)
     have hs58 := St.knil kU64 hs56
     refine ops_appendK kU64 (bytes := 8) (a' := (some ⟨b57, 0, none⟩)) (c' := 1) (l := []) (m := [(vget img l (r6.1 + 4))]) hs58 (by kernel_rfl) (by simp) (cells_blk (hs58.heapAt 1 rfl)) (by (unfold maxLen; try simp) <;> omega) (by (try simp) <;> omega) (fun a59 c60 w61 hs62 => ?_)
     have hs63 : St B w [] w61 [kU64.row a59 c60 ([(vget img l (r6.1 + 4))]), blk b57 (.cells [(.int .u64 (vget img l (r6.1 + 4)))].toArray 38 (0, 0)), blk b4 (.cells [(.int .i64 0), (.int .u64 0), (.int .u64 0), (.string ByteArray.empty)].toArray 46 (0, 0))] := hs62
     refine zE 1 ?_
     refine normal_block ?_
     refine hK50 _ _ ?_
     refine W.region ?_
     refine zE 3 ?_
     refine loopAt_next ?_
     refine loopAt_round ?_
     refine W.seq fun K64 hK64 => ?_
     refine W.sr fun K65 hK65 => ?_
     refine zE 2 (hK65 _ _ ?_)
     refine W.cond_true true (by kernel_rfl) rfl ?_
     refine W.skip ?_
     refine hK64 _ _ ?_
     refine W.seq fun K66 hK66 => ?_
     refine W.block ?_
     refine W.region ?_
     refine zR 4 ?_
     obtain ⟨h67, hm⟩ := need_some hm
     refine zI _ (wrap_i64 h67.1 h67.2) ?_
     refine zC00 hs63 (get_spec (at_ := (r6.1 + 5)) (hv := (viewAt_old hs63 hv)) B _) fun w68 hs70 => ?_
     refine ops_new (fun b => .slice (some ⟨b, 0, none⟩) 1 1) (.cells [(.int .u64 (vget img l (r6.1 + 5)))].toArray 38 (0, 0)) hs70 (by kernel_rfl) (fun b73 w71 hs72 => ?_)
     have hs74 := St.f1 hs72
     refine ops_appendK kU64 (bytes := 8) (a' := (some ⟨b73, 0, none⟩)) (c' := 1) (l := [(vget img l (r6.1 + 4))]) (m := [(vget img l (r6.1 + 5))]) hs74 (by kernel_rfl) (by simp) (cells_blk (hs74.heapAt 1 rfl)) (by unfold maxLen; (try simp only [List.length_cons, List.length_nil]); omega) (by (try simp only [List.length_cons, List.length_nil]); omega) (fun a75 c76 w77 hs78 => ?_)
     have hs79 : St B w [] w77 [kU64.row a75 c76 ([(vget img l (r6.1 + 4)), (vget img l (r6.1 + 5))]), blk b73 (.cells [(.int .u64 (vget img l (r6.1 + 5)))].toArray 38 (0, 0)), blk b57 (.cells [(.int .u64 (vget img l (r6.1 + 4)))].toArray 38 (0, 0)), blk b4 (.cells [(.int .i64 0), (.int .u64 0), (.int .u64 0), (.string ByteArray.empty)].toArray 46 (0, 0))] := hs78
     refine zE 1 ?_
     refine normal_block ?_
     refine hK66 _ _ ?_
     refine W.region ?_
     refine zE 3 ?_
     refine loopAt_next ?_
     refine loopAt_round ?_
     refine W.seq fun K80 hK80 => ?_
     refine W.sr fun K81 hK81 => ?_
     refine zE 2 (hK81 _ _ ?_)
     refine W.cond_true true (by kernel_rfl) rfl ?_
     refine W.skip ?_
     refine hK80 _ _ ?_
     refine W.seq fun K82 hK82 => ?_
     refine W.block ?_
     refine W.region ?_
     refine zR 4 ?_
     obtain ⟨h83, hm⟩ := need_some hm
     refine zI _ (wrap_i64 h83.1 h83.2) ?_
     refine zC00 hs79 (get_spec (at_ := (r6.1 + 6)) (hv := (viewAt_old hs79 hv)) B _) fun w84 hs86 => ?_
     refine ops_new (fun b => .slice (some ⟨b, 0, none⟩) 1 1) (.cells [(.int .u64 (vget img l (r6.1 + 6)))].toArray 38 (0, 0)) hs86 (by kernel_rfl) (fun b89 w87 hs88 => ?_)
     have hs90 := St.f1 hs88
     refine ops_appendK kU64 (bytes := 8) (a' := (some ⟨b89, 0, none⟩)) (c' := 1) (l := [(vget img l (r6.1 + 4)), (vget img l (r6.1 + 5))]) (m := [(vget img l (r6.1 + 6))]) hs90 (by kernel_rfl) (by simp) (cells_blk (hs90.heapAt 1 rfl)) (by unfold maxLen; (try simp only [List.length_cons, List.length_nil]); omega) (by (try simp only [List.length_cons, List.length_nil]); omega) (fun a91 c92 w93 hs94 => ?_)
     have hs95 : St B w [] w93 [kU64.row a91 c92 ([(vget img l (r6.1 + 4)), (vget img l (r6.1 + 5)), (vget img l (r6.1 + 6))]), blk b89 (.cells [(.int .u64 (vget img l (r6.1 + 6)))].toArray 38 (0, 0)), blk b73 (.cells [(.int .u64 (vget img l (r6.1 + 5)))].toArray 38 (0, 0)), blk b57 (.cells [(.int .u64 (vget img l (r6.1 + 4)))].toArray 38 (0, 0)), blk b4 (.cells [(.int .i64 0), (.int .u64 0), (.int .u64 0), (.string ByteArray.empty)].toArray 46 (0, 0))] := hs94
     refine zE 1 ?_
     refine normal_block ?_
     refine hK82 _ _ ?_
     refine W.region ?_
     refine zE 3 ?_
     refine loopAt_next ?_
     refine loopAt_round ?_
     refine W.seq fun K96 hK96 => ?_
     refine W.sr fun K97 hK97 => ?_
     refine zE 2 (hK97 _ _ ?_)
     refine W.cond_true true (by kernel_rfl) rfl ?_
     refine W.skip ?_
     refine hK96 _ _ ?_
     refine W.seq fun K98 hK98 => ?_
     refine W.block ?_
     refine W.region ?_
     refine zR 4 ?_
     obtain ⟨h99, hm⟩ := need_some hm
     refine zI _ (wrap_i64 h99.1 h99.2) ?_
     refine zC00 hs95 (get_spec (at_ := (r6.1 + 7)) (hv := (viewAt_old hs95 hv)) B _) fun w100 hs102 => ?_
     refine ops_new (fun b => .slice (some ⟨b, 0, none⟩) 1 1) (.cells [(.int .u64 (vget img l (r6.1 + 7)))].toArray 38 (0, 0)) hs102 (by kernel_rfl) (fun b105 w103 hs104 => ?_)
     have hs106 := St.f1 hs104
     refine ops_appendK kU64 (bytes := 8) (a' := (some ⟨b105, 0, none⟩)) (c' := 1) (l := [(vget img l (r6.1 + 4)), (vget img l (r6.1 + 5)), (vget img l (r6.1 + 6))]) (m := [(vget img l (r6.1 + 7))]) hs106 (by kernel_rfl) (by simp) (cells_blk (hs106.heapAt 1 rfl)) (by unfold maxLen; (try simp only [List.length_cons, List.length_nil]); omega) (by (try simp only [List.length_cons, List.length_nil]); omega) (fun a107 c108 w109 hs110 => ?_)
     have hs111 : St B w [] w109 [kU64.row a107 c108 ([(vget img l (r6.1 + 4)), (vget img l (r6.1 + 5)), (vget img l (r6.1 + 6)), (vget img l (r6.1 + 7))]), blk b105 (.cells [(.int .u64 (vget img l (r6.1 + 7)))].toArray 38 (0, 0)), blk b89 (.cells [(.int .u64 (vget img l (r6.1 + 6)))].toArray 38 (0, 0)), blk b73 (.cells [(.int .u64 (vget img l (r6.1 + 5)))].toArray 38 (0, 0)), blk b57 (.cells [(.int .u64 (vget img l (r6.1 + 4)))].toArray 38 (0, 0)), blk b4 (.cells [(.int .i64 0), (.int .u64 0), (.int .u64 0), (.string ByteArray.empty)].toArray 46 (0, 0))] := hs110
     refine zE 1 ?_
     refine normal_block ?_
     refine hK98 _ _ ?_
     refine W.region ?_
     refine zE 3 ?_
     refine loopAt_next ?_
     refine loopAt_round ?_
     refine W.seq fun K112 hK112 => ?_
     refine W.sr fun K113 hK113 => ?_
     refine zE 2 (hK113 _ _ ?_)
     refine W.cond_true true (by kernel_rfl) rfl ?_
     refine W.skip ?_
     refine hK112 _ _ ?_
     refine W.seq fun K114 hK114 => ?_
     refine W.block ?_
     refine W.region ?_
     refine zR 4 ?_
     obtain ⟨h115, hm⟩ := need_some hm
     refine zI _ (wrap_i64 h115.1 h115.2) ?_
     refine zC00 hs111 (get_spec (at_ := (r6.1 + 8)) (hv := (viewAt_old hs111 hv)) B _) fun w116 hs118 => ?_
     refine ops_new (fun b => .slice (some ⟨b, 0, none⟩) 1 1) (.cells [(.int .u64 (vget img l (r6.1 + 8)))].toArray 38 (0, 0)) hs118 (by kernel_rfl) (fun b121 w119 hs120 => ?_)
     have hs122 := St.f1 hs120
     refine ops_appendK kU64 (bytes := 8) (a' := (some ⟨b121, 0, none⟩)) (c' := 1) (l := [(vget img l (r6.1 + 4)), (vget img l (r6.1 + 5)), (vget img l (r6.1 + 6)), (vget img l (r6.1 + 7))]) (m := [(vget img l (r6.1 + 8))]) hs122 (by kernel_rfl) (by simp) (cells_blk (hs122.heapAt 1 rfl)) (by unfold maxLen; (try simp only [List.length_cons, List.length_nil]); omega) (by (try simp only [List.length_cons, List.length_nil]); omega) (fun a123 c124 w125 hs126 => ?_)
     have hs127 : St B w [] w125 [kU64.row a123 c124 ([(vget img l (r6.1 + 4)), (vget img l (r6.1 + 5)), (vget img l (r6.1 + 6)), (vget img l (r6.1 + 7)), (vget img l (r6.1 + 8))]), blk b121 (.cells [(.int .u64 (vget img l (r6.1 + 8)))].toArray 38 (0, 0)), blk b105 (.cells [(.int .u64 (vget img l (r6.1 + 7)))].toArray 38 (0, 0)), blk b89 (.cells [(.int .u64 (vget img l (r6.1 + 6)))].toArray 38 (0, 0)), blk b73 (.cells [(.int .u64 (vget img l (r6.1 + 5)))].toArray 38 (0, 0)), blk b57 (.cells [(.int .u64 (vget img l (r6.1 + 4)))].toArray 38 (0, 0)), blk b4 (.cells [(.int .i64 0), (.int .u64 0), (.int .u64 0), (.string ByteArray.empty)].toArray 46 (0, 0))] := hs126
     refine zE 1 ?_
     refine normal_block ?_
     refine hK114 _ _ ?_
     refine W.region ?_
     refine zE 3 ?_
     refine loopAt_next ?_
     refine loopAt_round ?_
     refine W.seq fun K128 hK128 => ?_
     refine W.sr fun K129 hK129 => ?_
     refine zE 2 (hK129 _ _ ?_)
     refine W.cond_true true (by kernel_rfl) rfl ?_
     refine W.skip ?_
     refine hK128 _ _ ?_
     refine W.seq fun K130 hK130 => ?_
     refine W.block ?_
     refine W.region ?_
     refine zR 4 ?_
     obtain ⟨h131, hm⟩ := need_some hm
     refine zI _ (wrap_i64 h131.1 h131.2) ?_
     refine zC00 hs127 (get_spec (at_ := (r6.1 + 9)) (hv := (viewAt_old hs127 hv)) B _) fun w132 hs134 => ?_
     refine ops_new (fun b => .slice (some ⟨b, 0, none⟩) 1 1) (.cells [(.int .u64 (vget img l (r6.1 + 9)))].toArray 38 (0, 0)) hs134 (by kernel_rfl) (fun b137 w135 hs136 => ?_)
     have hs138 := St.f1 hs136
     refine ops_appendK kU64 (bytes := 8) (a' := (some ⟨b137, 0, none⟩)) (c' := 1) (l := [(vget img l (r6.1 + 4)), (vget img l (r6.1 + 5)), (vget img l (r6.1 + 6)), (vget img l (r6.1 + 7)), (vget img l (r6.1 + 8))]) (m := [(vget img l (r6.1 + 9))]) hs138 (by kernel_rfl) (by simp) (cells_blk (hs138.heapAt 1 rfl)) (by unfold maxLen; (try simp only [List.length_cons, List.length_nil]); omega) (by (try simp only [List.length_cons, List.length_nil]); omega) (fun a139 c140 w141 hs142 => ?_)
     have hs143 : St B w [] w141 [kU64.row a139 c140 ([(vget img l (r6.1 + 4)), (vget img l (r6.1 + 5)), (vget img l (r6.1 + 6)), (vget img l (r6.1 + 7)), (vget img l (r6.1 + 8)), (vget img l (r6.1 + 9))]), blk b137 (.cells [(.int .u64 (vget img l (r6.1 + 9)))].toArray 38 (0, 0)), blk b121 (.cells [(.int .u64 (vget img l (r6.1 + 8)))].toArray 38 (0, 0)), blk b105 (.cells [(.int .u64 (vget img l (r6.1 + 7)))].toArray 38 (0, 0)), blk b89 (.cells [(.int .u64 (vget img l (r6.1 + 6)))].toArray 38 (0, 0)), blk b73 (.cells [(.int .u64 (vget img l (r6.1 + 5)))].toArray 38 (0, 0)), blk b57 (.cells [(.int .u64 (vget img l (r6.1 + 4)))].toArray 38 (0, 0)), blk b4 (.cells [(.int .i64 0), (.int .u64 0), (.int .u64 0), (.string ByteArray.empty)].toArray 46 (0, 0))] := hs142
     refine zE 1 ?_
     refine normal_block ?_
     refine hK130 _ _ ?_
     refine W.region ?_
     refine zE 3 ?_
     refine loopAt_next ?_
     refine loopAt_round ?_
     refine W.seq fun K144 hK144 => ?_
     refine W.sr fun K145 hK145 => ?_
     refine zE 2 (hK145 _ _ ?_)
     refine W.cond_true true (by kernel_rfl) rfl ?_
     refine W.skip ?_
     refine hK144 _ _ ?_
     refine W.seq fun K146 hK146 => ?_
     refine W.block ?_
     refine W.region ?_
     refine zR 4 ?_
     obtain ⟨h147, hm⟩ := need_some hm
     refine zI _ (wrap_i64 h147.1 h147.2) ?_
     refine zC00 hs143 (get_spec (at_ := (r6.1 + 10)) (hv := (viewAt_old hs143 hv)) B _) fun w148 hs150 => ?_
     refine ops_new (fun b => .slice (some ⟨b, 0, none⟩) 1 1) (.cells [(.int .u64 (vget img l (r6.1 + 10)))].toArray 38 (0, 0)) hs150 (by kernel_rfl) (fun b153 w151 hs152 => ?_)
     have hs154 := St.f1 hs152
     refine ops_appendK kU64 (bytes := 8) (a' := (some ⟨b153, 0, none⟩)) (c' := 1) (l := [(vget img l (r6.1 + 4)), (vget img l (r6.1 + 5)), (vget img l (r6.1 + 6)), (vget img l (r6.1 + 7)), (vget img l (r6.1 + 8)), (vget img l (r6.1 + 9))]) (m := [(vget img l (r6.1 + 10))]) hs154 (by kernel_rfl) (by simp) (cells_blk (hs154.heapAt 1 rfl)) (by unfold maxLen; (try simp only [List.length_cons, List.length_nil]); omega) (by (try simp only [List.length_cons, List.length_nil]); omega) (fun a155 c156 w157 hs158 => ?_)
     have hs159 : St B w [] w157 [kU64.row a155 c156 ([(vget img l (r6.1 + 4)), (vget img l (r6.1 + 5)), (vget img l (r6.1 + 6)), (vget img l (r6.1 + 7)), (vget img l (r6.1 + 8)), (vget img l (r6.1 + 9)), (vget img l (r6.1 + 10))]), blk b153 (.cells [(.int .u64 (vget img l (r6.1 + 10)))].toArray 38 (0, 0)), blk b137 (.cells [(.int .u64 (vget img l (r6.1 + 9)))].toArray 38 (0, 0)), blk b121 (.cells [(.int .u64 (vget img l (r6.1 + 8)))].toArray 38 (0, 0)), blk b105 (.cells [(.int .u64 (vget img l (r6.1 + 7)))].toArray 38 (0, 0)), blk b89 (.cells [(.int .u64 (vget img l (r6.1 + 6)))].toArray 38 (0, 0)), blk b73 (.cells [(.int .u64 (vget img l (r6.1 + 5)))].toArray 38 (0, 0)), blk b57 (.cells [(.int .u64 (vget img l (r6.1 + 4)))].toArray 38 (0, 0)), blk b4 (.cells [(.int .i64 0), (.int .u64 0), (.int .u64 0), (.string ByteArray.empty)].toArray 46 (0, 0))] := hs158
     refine zE 1 ?_
     refine normal_block ?_
     refine hK146 _ _ ?_
     refine W.region ?_
     refine zE 3 ?_
     refine loopAt_next ?_
     refine loopAt_round ?_
     refine W.seq fun K160 hK160 => ?_
     refine W.sr fun K161 hK161 => ?_
     refine zE 2 (hK161 _ _ ?_)
     refine W.cond_true true (by kernel_rfl) rfl ?_
     refine W.skip ?_
     refine hK160 _ _ ?_
     refine W.seq fun K162 hK162 => ?_
     refine W.block ?_
     refine W.region ?_
     refine zR 4 ?_
     obtain ⟨h163, hm⟩ := need_some hm
     refine zI _ (wrap_i64 h163.1 h163.2) ?_
     refine zC00 hs159 (get_spec (at_ := (r6.1 + 11)) (hv := (viewAt_old hs159 hv)) B _) fun w164 hs166 => ?_
     refine ops_new (fun b => .slice (some ⟨b, 0, none⟩) 1 1) (.cells [(.int .u64 (vget img l (r6.1 + 11)))].toArray 38 (0, 0)) hs166 (by kernel_rfl) (fun b169 w167 hs168 => ?_)
     have hs170 := St.f1 hs168
     refine ops_appendK kU64 (bytes := 8) (a' := (some ⟨b169, 0, none⟩)) (c' := 1) (l := [(vget img l (r6.1 + 4)), (vget img l (r6.1 + 5)), (vget img l (r6.1 + 6)), (vget img l (r6.1 + 7)), (vget img l (r6.1 + 8)), (vget img l (r6.1 + 9)), (vget img l (r6.1 + 10))]) (m := [(vget img l (r6.1 + 11))]) hs170 (by kernel_rfl) (by simp) (cells_blk (hs170.heapAt 1 rfl)) (by unfold maxLen; (try simp only [List.length_cons, List.length_nil]); omega) (by (try simp only [List.length_cons, List.length_nil]); omega) (fun a171 c172 w173 hs174 => ?_)
     have hs175 : St B w [] w173 [kU64.row a171 c172 ([(vget img l (r6.1 + 4)), (vget img l (r6.1 + 5)), (vget img l (r6.1 + 6)), (vget img l (r6.1 + 7)), (vget img l (r6.1 + 8)), (vget img l (r6.1 + 9)), (vget img l (r6.1 + 10)), (vget img l (r6.1 + 11))]), blk b169 (.cells [(.int .u64 (vget img l (r6.1 + 11)))].toArray 38 (0, 0)), blk b153 (.cells [(.int .u64 (vget img l (r6.1 + 10)))].toArray 38 (0, 0)), blk b137 (.cells [(.int .u64 (vget img l (r6.1 + 9)))].toArray 38 (0, 0)), blk b121 (.cells [(.int .u64 (vget img l (r6.1 + 8)))].toArray 38 (0, 0)), blk b105 (.cells [(.int .u64 (vget img l (r6.1 + 7)))].toArray 38 (0, 0)), blk b89 (.cells [(.int .u64 (vget img l (r6.1 + 6)))].toArray 38 (0, 0)), blk b73 (.cells [(.int .u64 (vget img l (r6.1 + 5)))].toArray 38 (0, 0)), blk b57 (.cells [(.int .u64 (vget img l (r6.1 + 4)))].toArray 38 (0, 0)), blk b4 (.cells [(.int .i64 0), (.int .u64 0), (.int .u64 0), (.string ByteArray.empty)].toArray 46 (0, 0))] := hs174
     refine zE 1 ?_
     refine normal_block ?_
     refine hK162 _ _ ?_
     refine W.region ?_
     refine zE 3 ?_
     refine loopAt_next ?_
     refine loopAt_round ?_
     refine W.seq fun K176 hK176 => ?_
     refine W.sr fun K177 hK177 => ?_
     refine zE 2 (hK177 _ _ ?_)
     refine W.cond_false false (by kernel_rfl) rfl ?_
     refine W.exit (exit_seq (exit_seq (exit_here ?_)))
     refine hK46 _ _ ?_
     refine W.sr fun K178 hK178 => ?_
     refine zR 2 ?_
     obtain ⟨h179, hm⟩ := need_some hm
     refine zI _ (wrap_i64 h179.1 h179.2) ?_
     obtain ⟨r180, h181, hm⟩ := bind_some hm
     refine zC00 hs175 (unpack_walk (ws := [(vget img l (r6.1 + 4)), (vget img l (r6.1 + 5)), (vget img l (r6.1 + 6)), (vget img l (r6.1 + 7)), (vget img l (r6.1 + 8)), (vget img l (r6.1 + 9)), (vget img l (r6.1 + 10)), (vget img l (r6.1 + 11))]) (n_ := r33) (wa := a171) (wc := c172) (hw := (St.kcells kU64 hs175 0 rfl)) (hm := h181) B _) fun w182 hs184 => ?_
     refine zE 5 (hK178 _ _ ?_)
     refine W.seq fun K185 hK185 => ?_
     refine W.sr fun K186 hK186 => ?_
     refine zE 2 (hK186 _ _ ?_)
     refine W.cond (!decide (r180.2 = 0)) (by kernel_rfl) (fun h187 => ?_) (fun h187 => ?_)
     rotate_left
     ·
      have h187p : r180.2 = 0 := of_decide_eq_true (bnot_false h187)
      replace hm := ite_yes hm h187p
      refine W.skip ?_
      refine hK185 _ _ ?_
      refine W.sr fun K188 hK188 => ?_
      refine zR 2 ?_
      refine zC00 hs184 (get_spec (at_ := r6.1) (hv := (viewAt_old hs184 hv)) B _) fun w189 hs191 => ?_
      refine zR 1 ?_
      obtain ⟨h192, hm⟩ := need_some hm
      refine zI _ (wrap_i64 h192.1 h192.2) ?_
      refine zR 2 ?_
      obtain ⟨h193, hm⟩ := need_some hm
      refine zI _ (wrap_i64 h193.1 h193.2) ?_
      refine zC00 hs191 (get_spec (at_ := (r6.1 + 2)) (hv := (viewAt_old hs191 hv)) B _) fun w194 hs196 => ?_
      refine zR 2 ?_
      obtain ⟨h197, hm⟩ := need_some hm
      refine zI _ (wrap_i64 h197.1 h197.2) ?_
      refine zC00 hs196 (get_spec (at_ := (r6.1 + 3)) (hv := (viewAt_old hs196 hv)) B _) fun w198 hs200 => ?_
      refine zR 3 ?_
      have hs203 := St.f9 hs200
      refine ops_store (off := 0) (cs := [(.int .i64 0), (.int .u64 0), (.int .u64 0), (.string ByteArray.empty)]) (vs := [(.int .i64 r31), (.int .u64 (vget img l (r6.1 + 2))), (.int .u64 (vget img l (r6.1 + 3))), (.string r180.1)]) hs203 (by kernel_rfl) (by simp) rfl (fun w201 hs202 => ?_)
      have hs204 : St B w [] w201 [blk b4 (.cells [(.int .i64 r31), (.int .u64 (vget img l (r6.1 + 2))), (.int .u64 (vget img l (r6.1 + 3))), (.string r180.1)].toArray 46 (0, 0)), kU64.row a171 c172 ([(vget img l (r6.1 + 4)), (vget img l (r6.1 + 5)), (vget img l (r6.1 + 6)), (vget img l (r6.1 + 7)), (vget img l (r6.1 + 8)), (vget img l (r6.1 + 9)), (vget img l (r6.1 + 10)), (vget img l (r6.1 + 11))]), blk b169 (.cells [(.int .u64 (vget img l (r6.1 + 11)))].toArray 38 (0, 0)), blk b153 (.cells [(.int .u64 (vget img l (r6.1 + 10)))].toArray 38 (0, 0)), blk b137 (.cells [(.int .u64 (vget img l (r6.1 + 9)))].toArray 38 (0, 0)), blk b121 (.cells [(.int .u64 (vget img l (r6.1 + 8)))].toArray 38 (0, 0)), blk b105 (.cells [(.int .u64 (vget img l (r6.1 + 7)))].toArray 38 (0, 0)), blk b89 (.cells [(.int .u64 (vget img l (r6.1 + 6)))].toArray 38 (0, 0)), blk b73 (.cells [(.int .u64 (vget img l (r6.1 + 5)))].toArray 38 (0, 0)), blk b57 (.cells [(.int .u64 (vget img l (r6.1 + 4)))].toArray 38 (0, 0))] := hs202
      refine zE 1 (hK188 _ _ ?_)
      refine W.ret ?_
      obtain rfl := some_inj hm
      have hs205 := St.tk0 hs204
      refine ret_of (.tuple #[(.int .u64 (vget img l r6.1)), (.agg #[(.int .i64 r31), (.int .u64 (vget img l (r6.1 + 2))), (.int .u64 (vget img l (r6.1 + 3))), (.string r180.1)]), (.int .i64 0)]) (resS_of (by kernel_rfl) (resD_three rfl (.tmp (by kernel_rfl)) (.agg (ad := ⟨b4, 0, none⟩) (cs := [(.int .i64 r31), (.int .u64 (vget img l (r6.1 + 2))), (.int .u64 (vget img l (r6.1 + 3))), (.string r180.1)]) (by kernel_rfl) (by kernel_rfl) (cells_sub (hs204.heapAt 0 rfl) rfl)) (.tmp (by kernel_rfl)))) ⟨_, ⟨rfl, rfl⟩, hs205⟩
     ·
      have h187p : ¬ (r180.2 = 0) := of_decide_eq_false (bnot_true h187)
      replace hm := ite_no hm h187p
      refine W.sr fun K206 hK206 => ?_
      refine zR 3 ?_
      have hs209 := St.f9 hs184
      refine ops_store (off := 0) (cs := [(.int .i64 0), (.int .u64 0), (.int .u64 0), (.string ByteArray.empty)]) (vs := [(.int .i64 0), (.int .u64 0), (.int .u64 0), (.string ByteArray.empty)]) hs209 (by kernel_rfl) (by simp) rfl (fun w207 hs208 => ?_)
      have hs210 : St B w [] w207 [blk b4 (.cells [(.int .i64 0), (.int .u64 0), (.int .u64 0), (.string ByteArray.empty)].toArray 46 (0, 0)), kU64.row a171 c172 ([(vget img l (r6.1 + 4)), (vget img l (r6.1 + 5)), (vget img l (r6.1 + 6)), (vget img l (r6.1 + 7)), (vget img l (r6.1 + 8)), (vget img l (r6.1 + 9)), (vget img l (r6.1 + 10)), (vget img l (r6.1 + 11))]), blk b169 (.cells [(.int .u64 (vget img l (r6.1 + 11)))].toArray 38 (0, 0)), blk b153 (.cells [(.int .u64 (vget img l (r6.1 + 10)))].toArray 38 (0, 0)), blk b137 (.cells [(.int .u64 (vget img l (r6.1 + 9)))].toArray 38 (0, 0)), blk b121 (.cells [(.int .u64 (vget img l (r6.1 + 8)))].toArray 38 (0, 0)), blk b105 (.cells [(.int .u64 (vget img l (r6.1 + 7)))].toArray 38 (0, 0)), blk b89 (.cells [(.int .u64 (vget img l (r6.1 + 6)))].toArray 38 (0, 0)), blk b73 (.cells [(.int .u64 (vget img l (r6.1 + 5)))].toArray 38 (0, 0)), blk b57 (.cells [(.int .u64 (vget img l (r6.1 + 4)))].toArray 38 (0, 0))] := hs208
      refine zE 1 (hK206 _ _ ?_)
      refine W.ret (ret_seq ?_)
      obtain rfl := some_inj hm
      have hs211 := St.tk0 hs210
      refine ret_of (.tuple #[(.int .u64 0), (.agg #[(.int .i64 0), (.int .u64 0), (.int .u64 0), (.string ByteArray.empty)]), (.int .i64 r180.2)]) (resS_of (by kernel_rfl) (resD_three rfl (.tmp (by kernel_rfl)) (.agg (ad := ⟨b4, 0, none⟩) (cs := [(.int .i64 0), (.int .u64 0), (.int .u64 0), (.string ByteArray.empty)]) (by kernel_rfl) (by kernel_rfl) (cells_sub (hs210.heapAt 0 rfl) rfl)) (.tmp (by kernel_rfl)))) ⟨_, ⟨rfl, rfl⟩, hs211⟩
   ·
    refine W.region ?_
    refine zR 3 ?_
    rcases Bool.eq_false_or_eq_true (decide (r31 > 24)) with h212 | h212
    ·
     obtain ⟨h212p, hm⟩ := iY hm h212
     refine zS 44 h212 ?_
     refine zS 43 h212 ?_
     refine zE 3 ?_
     exact ⟨true, slots_intro _ (by kernel_rfl), hs29, hm⟩
    ·
     obtain ⟨h212p, hm⟩ := iN hm h212
     refine zS 44 h212 ?_
     refine zS 43 h212 ?_
     refine zE 3 ?_
     exact ⟨(decide (r33 > 64)), slots_intro _ (by kernel_rfl), hs29, hm⟩
 ·
  refine W.region ?_
  refine zR 3 ?_
  rcases Bool.eq_false_or_eq_true (!decide (r6.2 = 0)) with h213 | h213
  rotate_left
  ·
   have h213p : r6.2 = 0 := of_decide_eq_true (bnot_false h213)
   replace hm := ite_yes hm h213p
   refine zS 24 h213 ?_
   refine zS 23 h213 ?_
   refine zR 2 ?_
   refine zC00 hs10 (get_spec (at_ := r6.1) (hv := (viewAt_old hs10 hv)) B _) fun w214 hs216 => ?_
   refine zE 2 ?_
   exact ⟨(decide ((vget img l r6.1) = 0)), slots_intro _ (by kernel_rfl), hs216, hm⟩
  ·
   have h213p : ¬ (r6.2 = 0) := of_decide_eq_false (bnot_true h213)
   replace hm := ite_no hm h213p
   refine zS 24 h213 ?_
   refine zS 23 h213 ?_
   refine zE 5 ?_
   exact ⟨true, slots_intro _ (by kernel_rfl), hs10, hm⟩

end Go.Proofs.YthimamnblklkbaaDoor

set_option linter.unusedVariables false
set_option maxRecDepth 20000
set_option maxHeartbeats 2000000
namespace Go.Proofs.YthimamnblklkbaaDoor
open Go Go.RowKit
set_option linter.unusedSimpArgs false
set_option linter.unusedVariables false

def cmay_M (q_ : Int) (t_ : Int) : Option (Int) :=
 if q_ < t_ then (if q_ < t_ then (some 1) else (some 0)) else (if q_ > 1099511627776 then (some 1) else (some 0))

theorem cmay_walk {img : List Int} {l : List (Int × Int)} {q_ : Int} {t_ : Int} {vb : Nat} {r : Int} (B : Nat) (w : World) (hv : ViewAt (ptr vb) img l w) (hm : cmay_M q_ t_ = some r) : Spec Tryd.prog 129 #[(.pointer (some ⟨vb, 0, none⟩)), (.int .u64 q_), (.int .u64 t_)] B w [] (fun v H' => v = (.int .i64 r) ∧ H' = []) := by
 refine spec_Q Tryd.func129 rfl fun hs => ?_
 unfold cmay_M at hm
 refine W.sr fun K1 hK1 => ?_
 refine zE 1 (hK1 _ _ ?_)
 refine W.seq fun K2 hK2 => ?_
 refine W.block ?_
 refine W.sr fun K3 hK3 => ?_
 refine zE 3 (hK3 _ _ ?_)
 refine W.cond_false false (by kernel_rfl) rfl ?_
 refine W.seq fun K4 hK4 => ?_
 refine W.sr fun K5 hK5 => ?_
 refine zE 4 (hK5 _ _ ?_)
 refine W.cond (decide (q_ < t_)) (by kernel_rfl) (fun h6 => ?_) (fun h6 => ?_)
 ·
  obtain ⟨h6p, hm⟩ := iY hm h6
  refine W.skip ?_
  refine hK4 _ _ ?_
  refine W.cond (decide (q_ < t_)) (by kernel_rfl) (fun h7 => ?_) (fun h7 => ?_)
  ·
   obtain ⟨h7p, hm⟩ := iY hm h7
   refine W.sr fun K8 hK8 => ?_
   refine zE 1 (hK8 _ _ ?_)
   refine W.ret (ret_block (ret_seq ?_))
   obtain rfl := some_inj hm
   refine ret_of (.int .i64 1) (by kernel_rfl) ⟨_, ⟨rfl, rfl⟩, hs⟩
  ·
   obtain ⟨h7p, hm⟩ := iN hm h7
   refine W.skip ?_
   refine normal_block ?_
   refine hK2 _ _ ?_
   refine W.sr fun K9 hK9 => ?_
   refine zE 1 (hK9 _ _ ?_)
   refine W.ret ?_
   obtain rfl := some_inj hm
   refine ret_of (.int .i64 0) (by kernel_rfl) ⟨_, ⟨rfl, rfl⟩, hs⟩
 ·
  obtain ⟨h6p, hm⟩ := iN hm h6
  refine W.region ?_
  refine zE 3 (hK4 _ _ ?_)
  refine W.cond (decide (q_ > 1099511627776)) (by kernel_rfl) (fun h10 => ?_) (fun h10 => ?_)
  ·
   obtain ⟨h10p, hm⟩ := iY hm h10
   refine W.sr fun K11 hK11 => ?_
   refine zE 1 (hK11 _ _ ?_)
   refine W.ret (ret_block (ret_seq ?_))
   obtain rfl := some_inj hm
   refine ret_of (.int .i64 1) (by kernel_rfl) ⟨_, ⟨rfl, rfl⟩, hs⟩
  ·
   obtain ⟨h10p, hm⟩ := iN hm h10
   refine W.skip ?_
   refine normal_block ?_
   refine hK2 _ _ ?_
   refine W.sr fun K12 hK12 => ?_
   refine zE 1 (hK12 _ _ ?_)
   refine W.ret ?_
   obtain rfl := some_inj hm
   refine ret_of (.int .i64 0) (by kernel_rfl) ⟨_, ⟨rfl, rfl⟩, hs⟩

end Go.Proofs.YthimamnblklkbaaDoor

set_option linter.unusedVariables false
set_option maxRecDepth 20000
set_option maxHeartbeats 2000000
namespace Go.Proofs.YthimamnblklkbaaDoor
open Go Go.RowKit
set_option linter.unusedSimpArgs false
set_option linter.unusedVariables false

def copened_J1 (r6 : Bool × Int × Int × Int) (p17 : Int) : Option (Bool × Int × Int × Int) :=
 some (r6.1, r6.2.1, r6.2.2.1, p17)

def copened_M (img : List Int) (l : List (Int × Int)) (i_ : Int) (g_ : Int) : Option (Bool × Int × Int × Int) :=
 (sget_M img l i_).bind fun r6 =>
if r6.2.2.2 = 0 then (if r6.1 = true then (if r6.2.1 = g_ then (copened_J1 r6 r6.2.2.2) else (copened_J1 r6 22)) else (copened_J1 r6 22)) else (copened_J1 r6 r6.2.2.2)

theorem copened_walk {img : List Int} {l : List (Int × Int)} {i_ : Int} {g_ : Int} {vb : Nat} {r : Bool × Int × Int × Int} (B : Nat) (w : World) (hL : CellsAt (some ⟨1, 0, none⟩) [(.int .i64 1), (.int .i64 2), (.int .i64 2)] w) (hv : ViewAt (ptr vb) img l w) (hm : copened_M img l i_ g_ = some r) : Spec Tryd.prog 130 #[(.pointer (some ⟨vb, 0, none⟩)), (.int .i64 i_), (.int .u64 g_)] B w [] (fun v H' => v = (.tuple #[(.agg #[(.bool r.1), (.int .u64 r.2.1), (.int .u64 r.2.2.1)]), (.int .i64 r.2.2.2)]) ∧ H' = []) := by
 refine spec_Q Tryd.func130 rfl fun hs => ?_
 unfold copened_M at hm
 refine W.sr fun K1 hK1 => ?_
 refine zN [(.bool false), (.int .u64 0), (.int .u64 0)] 48 hs fun b4 w2 hs3 => ?_
 refine zE 1 (hK1 _ _ ?_)
 refine W.sr fun K5 hK5 => ?_
 refine zR 2 ?_
 obtain ⟨r6, h7, hm⟩ := bind_some hm
 refine zC00 hs3 (sget_walk (i_ := i_) (img := img) (l := l) (hL := (hs3.oldCells hL)) (hv := (viewAt_old hs3 hv)) (hm := h7) B _) fun w8 hs10 => ?_
 refine zR 3 ?_
 refine zN [(.bool false), (.int .u64 0), (.int .u64 0)] 48 hs10 fun b13 w11 hs12 => ?_
 refine ops_store (off := 0) (cs := [(.bool false), (.int .u64 0), (.int .u64 0)]) (vs := [(.bool r6.1), (.int .u64 r6.2.1), (.int .u64 r6.2.2.1)]) hs12 (by kernel_rfl) (by simp) rfl (fun w14 hs15 => ?_)
 have hs16 : St B w [] w14 [blk b13 (.cells [(.bool r6.1), (.int .u64 r6.2.1), (.int .u64 r6.2.2.1)].toArray 48 (0, 0)), blk b4 (.cells [(.bool false), (.int .u64 0), (.int .u64 0)].toArray 48 (0, 0))] := hs15
 refine zE 1 (hK5 _ _ ?_)
 refine W.seq_join (fun s_ w_ => ∃ (p17 : Int), (∃ us, s_ = slots 31 [(6, (.pointer (some ⟨b4, 0, none⟩))), (8, (.pointer (some ⟨b13, 0, none⟩))), (9, (.int .i64 p17))] us) ∧ St B w [] w_ [blk b4 (.cells [(.bool false), (.int .u64 0), (.int .u64 0)].toArray 48 (0, 0)), blk b13 (.cells [(.bool r6.1), (.int .u64 r6.2.1), (.int .u64 r6.2.2.1)].toArray 48 (0, 0))] ∧ copened_J1 r6 p17 = some r) ?_ ?_
 ·
  rintro _ w18 ⟨p17, ⟨us, rfl⟩, hs19, hm⟩
  unfold copened_J1 at hm
  refine W.sr fun K20 hK20 => ?_
  refine ops_R (runs_loadAgg (ad := ⟨b13, 0, none⟩) (cs := [(.bool r6.1), (.int .u64 r6.2.1), (.int .u64 r6.2.2.1)]) (by kernel_rfl) (cells_sub (hs19.heapAt 1 rfl) rfl)) ?_
  refine zR 1 ?_
  refine ops_store (off := 0) (cs := [(.bool false), (.int .u64 0), (.int .u64 0)]) (vs := [(.bool r6.1), (.int .u64 r6.2.1), (.int .u64 r6.2.2.1)]) hs19 (by kernel_rfl) (by simp) rfl (fun w21 hs22 => ?_)
  have hs23 : St B w [] w21 [blk b4 (.cells [(.bool r6.1), (.int .u64 r6.2.1), (.int .u64 r6.2.2.1)].toArray 48 (0, 0)), blk b13 (.cells [(.bool r6.1), (.int .u64 r6.2.1), (.int .u64 r6.2.2.1)].toArray 48 (0, 0))] := hs22
  refine zE 1 (hK20 _ _ ?_)
  refine W.ret ?_
  obtain rfl := some_inj hm
  have hs24 := St.tk0 hs23
  refine ret_of (.tuple #[(.agg #[(.bool r6.1), (.int .u64 r6.2.1), (.int .u64 r6.2.2.1)]), (.int .i64 p17)]) (resS_of (by kernel_rfl) (resD_two rfl (.agg (ad := ⟨b4, 0, none⟩) (cs := [(.bool r6.1), (.int .u64 r6.2.1), (.int .u64 r6.2.2.1)]) (by kernel_rfl) (by kernel_rfl) (cells_sub (hs23.heapAt 0 rfl) rfl)) (.tmp (by kernel_rfl)))) ⟨_, ⟨rfl, rfl⟩, hs24⟩
 ·
  refine W.sr fun K25 hK25 => ?_
  refine zR 3 ?_
  rcases Bool.eq_false_or_eq_true (decide (r6.2.2.2 = 0)) with h26 | h26
  ·
   obtain ⟨h26p, hm⟩ := iY hm h26
   refine zS 18 h26 ?_
   refine zS 17 h26 ?_
   refine zR 1 ?_
   refine zL ⟨b13, 0, none⟩ (.bool r6.1) (hs16.cellAt 0 rfl rfl) ?_
   refine zR 2 ?_
   rcases Bool.eq_false_or_eq_true (!r6.1) with h27 | h27
   rotate_left
   ·
    have h27p : r6.1 = true := (bnot_false h27)
    replace hm := ite_yes hm h27p
    refine zS 22 h27 ?_
    refine zS 21 h27 ?_
    refine zR 1 ?_
    refine zL ⟨b13, 1, none⟩ (.int .u64 r6.2.1) (hs16.cellAt 0 rfl rfl) ?_
    refine zE 4 (hK25 _ _ ?_)
    refine W.cond (!decide (r6.2.1 = g_)) (by kernel_rfl) (fun h28 => ?_) (fun h28 => ?_)
    rotate_left
    ·
     have h28p : r6.2.1 = g_ := of_decide_eq_true (bnot_false h28)
     replace hm := ite_yes hm h28p
     refine W.skip ?_
     have hs29 := St.f1 hs16
     exact ⟨r6.2.2.2, slots_intro _ (by kernel_rfl), hs29, hm⟩
    ·
     have h28p : ¬ (r6.2.1 = g_) := of_decide_eq_false (bnot_true h28)
     replace hm := ite_no hm h28p
     refine W.region ?_
     refine zE 1 ?_
     have hs30 := St.f1 hs16
     exact ⟨22, slots_intro _ (by kernel_rfl), hs30, hm⟩
   ·
    have h27p : ¬ (r6.1 = true) := ne_true_of_eq_false (bnot_true h27)
    replace hm := ite_no hm h27p
    refine zS 22 h27 ?_
    refine zS 21 h27 ?_
    refine zE 6 (hK25 _ _ ?_)
    refine W.cond_true true (by kernel_rfl) rfl ?_
    refine W.region ?_
    refine zE 1 ?_
    have hs31 := St.f1 hs16
    exact ⟨22, slots_intro _ (by kernel_rfl), hs31, hm⟩
  ·
   obtain ⟨h26p, hm⟩ := iN hm h26
   refine zS 18 h26 ?_
   refine zS 17 h26 ?_
   refine zE 10 (hK25 _ _ ?_)
   refine W.cond_false false (by kernel_rfl) rfl ?_
   refine W.skip ?_
   have hs32 := St.f1 hs16
   exact ⟨r6.2.2.2, slots_intro _ (by kernel_rfl), hs32, hm⟩

end Go.Proofs.YthimamnblklkbaaDoor

set_option linter.unusedVariables false
set_option maxRecDepth 20000
set_option maxHeartbeats 2000000
namespace Go.Proofs.YthimamnblklkbaaDoor
open Go Go.RowKit
set_option linter.unusedSimpArgs false
set_option linter.unusedVariables false

def cof_J1 (r60 : Int × Int × Int × Int × ByteArray × Int) (p72 : Bool) : Option (Int × Int × Int × Int × ByteArray × Int) :=
 if p72 = true then (some (0, 0, 0, 0, ByteArray.empty, r60.2.2.2.2.2)) else (some (1, r60.2.1, r60.2.2.1, r60.2.2.2.1, r60.2.2.2.2.1, 0))

def cof_M (img : List Int) (l : List (Int × Int)) (i_ : Int) (g_ : Int) (q_ : Int) : Option (Int × Int × Int × Int × ByteArray × Int) :=
 (cmay_M q_ 1).bind fun r14 =>
if r14 = 0 then ((copened_M img l i_ g_).bind fun r22 =>
if r22.2.2.2 = 0 then (if q_ ≤ r22.2.2.1 then (some (2, 0, 0, 0, ByteArray.empty, 0)) else (if ((q_ - r22.2.2.1) % 18446744073709551616) > 4 then (some (3, 0, 0, 0, ByteArray.empty, 0)) else (need (-9223372036854775808 ≤ (q_.tmod 4) ∧ (q_.tmod 4) ≤ 9223372036854775807) <|
(sload_M img l i_ (q_.tmod 4)).bind fun r60 =>
if r60.2.2.2.2.2 = 0 then (cof_J1 r60 (!decide (r60.1 = q_))) else (cof_J1 r60 true)))) else (some (0, 0, 0, 0, ByteArray.empty, r22.2.2.2))) else (some (0, 0, 0, 0, ByteArray.empty, r14))

theorem cof_walk {img : List Int} {l : List (Int × Int)} {i_ : Int} {g_ : Int} {q_ : Int} {vb : Nat} {r : Int × Int × Int × Int × ByteArray × Int} (B : Nat) (w : World) (hL : CellsAt (some ⟨1, 0, none⟩) [(.int .i64 1), (.int .i64 2), (.int .i64 2)] w) (hv : ViewAt (ptr vb) img l w) (hm : cof_M img l i_ g_ q_ = some r) : Spec Tryd.prog 64 #[(.pointer (some ⟨vb, 0, none⟩)), (.int .i64 i_), (.int .u64 g_), (.int .u64 q_)] B w [] (fun v H' => v = (.tuple #[(.int .u8 r.1), (.agg #[(.int .i64 r.2.1), (.int .u64 r.2.2.1), (.int .u64 r.2.2.2.1), (.string r.2.2.2.2.1)]), (.int .i64 r.2.2.2.2.2)]) ∧ H' = []) := by
 refine spec_Q Tryd.func64 rfl fun hs => ?_
 unfold cof_M at hm
 refine W.sr fun K1 hK1 => ?_
 refine zR 1 ?_
 refine zN [(.int .i64 0), (.int .u64 0), (.int .u64 0), (.string ByteArray.empty)] 46 hs fun b4 w2 hs3 => ?_
 refine zE 1 (hK1 _ _ ?_)
 refine W.sr fun K5 hK5 => ?_
 refine zR 1 ?_
 refine zN [(.int .i64 0), (.int .u64 0), (.int .u64 0), (.string ByteArray.empty)] 46 hs3 fun b8 w6 hs7 => ?_
 refine ops_store (off := 0) (cs := [(.int .i64 0), (.int .u64 0), (.int .u64 0), (.string ByteArray.empty)]) (vs := [(.int .i64 0), (.int .u64 0), (.int .u64 0), (.string ByteArray.empty)]) hs7 (by kernel_rfl) (by simp) rfl (fun w9 hs10 => ?_)
 have hs11 : St B w [] w9 [blk b8 (.cells [(.int .i64 0), (.int .u64 0), (.int .u64 0), (.string ByteArray.empty)].toArray 46 (0, 0)), blk b4 (.cells [(.int .i64 0), (.int .u64 0), (.int .u64 0), (.string ByteArray.empty)].toArray 46 (0, 0))] := hs10
 refine zD (hK5 _ _ ?_)
 refine W.seq fun K12 hK12 => ?_
 refine W.sr fun K13 hK13 => ?_
 refine zR 2 ?_
 obtain ⟨r14, h15, hm⟩ := bind_some hm
 refine zC00 hs11 (cmay_walk (q_ := q_) (t_ := 1) (img := img) (l := l) (hv := (viewAt_old hs11 hv)) (hm := h15) B _) fun w16 hs18 => ?_
 refine zE 1 (hK13 _ _ ?_)
 refine W.sr fun K19 hK19 => ?_
 refine zE 2 (hK19 _ _ ?_)
 refine W.cond (!decide (r14 = 0)) (by kernel_rfl) (fun h20 => ?_) (fun h20 => ?_)
 rotate_left
 ·
  have h20p : r14 = 0 := of_decide_eq_true (bnot_false h20)
  replace hm := ite_yes hm h20p
  refine W.skip ?_
  refine hK12 _ _ ?_
  refine W.sr fun K21 hK21 => ?_
  refine zR 3 ?_
  obtain ⟨r22, h23, hm⟩ := bind_some hm
  refine zC00 hs18 (copened_walk (i_ := i_) (g_ := g_) (img := img) (l := l) (hL := (hs18.oldCells hL)) (hv := (viewAt_old hs18 hv)) (hm := h23) B _) fun w24 hs26 => ?_
  refine zR 3 ?_
  refine zN [(.bool false), (.int .u64 0), (.int .u64 0)] 48 hs26 fun b29 w27 hs28 => ?_
  refine ops_store (off := 0) (cs := [(.bool false), (.int .u64 0), (.int .u64 0)]) (vs := [(.bool r22.1), (.int .u64 r22.2.1), (.int .u64 r22.2.2.1)]) hs28 (by kernel_rfl) (by simp) rfl (fun w30 hs31 => ?_)
  have hs32 : St B w [] w30 [blk b29 (.cells [(.bool r22.1), (.int .u64 r22.2.1), (.int .u64 r22.2.2.1)].toArray 48 (0, 0)), blk b8 (.cells [(.int .i64 0), (.int .u64 0), (.int .u64 0), (.string ByteArray.empty)].toArray 46 (0, 0)), blk b4 (.cells [(.int .i64 0), (.int .u64 0), (.int .u64 0), (.string ByteArray.empty)].toArray 46 (0, 0))] := hs31
  refine zE 1 (hK21 _ _ ?_)
  refine W.seq fun K33 hK33 => ?_
  refine W.block ?_
  refine W.sr fun K34 hK34 => ?_
  refine zE 3 (hK34 _ _ ?_)
  refine W.cond (!decide (r22.2.2.2 = 0)) (by kernel_rfl) (fun h35 => ?_) (fun h35 => ?_)
  rotate_left
  ·
   have h35p : r22.2.2.2 = 0 := of_decide_eq_true (bnot_false h35)
   replace hm := ite_yes hm h35p
   refine W.sr fun K36 hK36 => ?_
   refine zR 2 ?_
   refine zL ⟨b29, 2, none⟩ (.int .u64 r22.2.2.1) (hs32.cellAt 0 rfl rfl) ?_
   refine zE 2 (hK36 _ _ ?_)
   refine W.cond (decide (q_ ≤ r22.2.2.1)) (by kernel_rfl) (fun h37 => ?_) (fun h37 => ?_)
   ·
    obtain ⟨h37p, hm⟩ := iY hm h37
    refine W.seq fun K38 hK38 => ?_
    have hs39 := hs32.drew
    refine W.regionD [(0, 0), (0, 0), (3, 1), (7, 0)] (fun w_ => St B w [] w_ [blk b29 (.cells [(.bool r22.1), (.int .u64 r22.2.1), (.int .u64 r22.2.2.1)].toArray 48 (0, 0)), blk b8 (.cells [(.int .i64 0), (.int .u64 0), (.int .u64 0), (.string ByteArray.empty)].toArray 46 (0, 0)), blk b4 (.cells [(.int .i64 0), (.int .u64 0), (.int .u64 0), (.string ByteArray.empty)].toArray 46 (0, 0))]) (by kernel_rfl) hs39 ?_
    refine any_R 0 (by kernel_rfl) (fun _ hS_ => runs_loadAgg (ad := ⟨b8, 0, none⟩) (cs := [(.int .i64 0), (.int .u64 0), (.int .u64 0), (.string ByteArray.empty)]) (by kernel_rfl) (cells_sub (hS_.heapAt 1 rfl) rfl)) hs39 ?_
    refine any_val (v := (.int .u8 2)) (v' := (.int .u8 2)) 1 (by kernel_rfl) (fun _ => by kernel_rfl) rfl hs39 ?_
    refine any_step 2 (by kernel_rfl) (by kernel_rfl) ?_
    have hs42 := St.f2 hs39
    refine ops_store (off := 0) (cs := [(.int .i64 0), (.int .u64 0), (.int .u64 0), (.string ByteArray.empty)]) (vs := [(.int .i64 0), (.int .u64 0), (.int .u64 0), (.string ByteArray.empty)]) hs42 (by kernel_rfl) (by simp) rfl (fun w40 hs41 => ?_)
    have hs43 : St B w [] w40 [blk b4 (.cells [(.int .i64 0), (.int .u64 0), (.int .u64 0), (.string ByteArray.empty)].toArray 46 (0, 0)), blk b29 (.cells [(.bool r22.1), (.int .u64 r22.2.1), (.int .u64 r22.2.2.1)].toArray 48 (0, 0)), blk b8 (.cells [(.int .i64 0), (.int .u64 0), (.int .u64 0), (.string ByteArray.empty)].toArray 46 (0, 0))] := hs41
    have hs44 := St.f2 hs43
    have hs45 := St.f2 hs44
    refine ops_done (by kernel_rfl) ⟨hs45, ?_⟩
    refine any_val (v := (.int .i64 0)) (v' := (.int .i64 0)) 3 (by kernel_rfl) (fun _ => by kernel_rfl) rfl hs45 ?_
    refine any_done (by kernel_rfl) ?_
    refine hK38 _ _ ?_
    refine W.ret (ret_block (ret_seq ?_))
    obtain rfl := some_inj hm
    have hs46 := St.tk0 hs43
    refine ret_of (.tuple #[(.int .u8 2), (.agg #[(.int .i64 0), (.int .u64 0), (.int .u64 0), (.string ByteArray.empty)]), (.int .i64 0)]) (resS_of (by kernel_rfl) (resD_three rfl (.tmp (by kernel_rfl)) (.agg (ad := ⟨b4, 0, none⟩) (cs := [(.int .i64 0), (.int .u64 0), (.int .u64 0), (.string ByteArray.empty)]) (by kernel_rfl) (by kernel_rfl) (cells_sub (hs43.heapAt 0 rfl) rfl)) (.tmp (by kernel_rfl)))) ⟨_, ⟨rfl, rfl⟩, hs46⟩
   ·
    obtain ⟨h37p, hm⟩ := iN hm h37
    refine W.sr fun K47 hK47 => ?_
    refine zR 2 ?_
    refine zL ⟨b29, 2, none⟩ (.int .u64 r22.2.2.1) (hs32.cellAt 0 rfl rfl) ?_
    refine ops_val (v := .int .u64 (IntKind.u64.wrap (q_ - r22.2.2.1))) (v' := .int .u64 ((q_ - r22.2.2.1) % 18446744073709551616)) (by kernel_rfl) (congrArg (Value.int .u64) (wrap_u64_mod _)) ?_
    refine zE 2 (hK47 _ _ ?_)
    refine W.cond (decide (((q_ - r22.2.2.1) % 18446744073709551616) > 4)) (by kernel_rfl) (fun h48 => ?_) (fun h48 => ?_)
    ·
     obtain ⟨h48p, hm⟩ := iY hm h48
     refine W.seq fun K49 hK49 => ?_
     have hs50 := hs32.drew
     refine W.regionD [(0, 0), (0, 0), (3, 1), (7, 0)] (fun w_ => St B w [] w_ [blk b29 (.cells [(.bool r22.1), (.int .u64 r22.2.1), (.int .u64 r22.2.2.1)].toArray 48 (0, 0)), blk b8 (.cells [(.int .i64 0), (.int .u64 0), (.int .u64 0), (.string ByteArray.empty)].toArray 46 (0, 0)), blk b4 (.cells [(.int .i64 0), (.int .u64 0), (.int .u64 0), (.string ByteArray.empty)].toArray 46 (0, 0))]) (by kernel_rfl) hs50 ?_
     refine any_R 0 (by kernel_rfl) (fun _ hS_ => runs_loadAgg (ad := ⟨b8, 0, none⟩) (cs := [(.int .i64 0), (.int .u64 0), (.int .u64 0), (.string ByteArray.empty)]) (by kernel_rfl) (cells_sub (hS_.heapAt 1 rfl) rfl)) hs50 ?_
     refine any_val (v := (.int .u8 3)) (v' := (.int .u8 3)) 1 (by kernel_rfl) (fun _ => by kernel_rfl) rfl hs50 ?_
     refine any_step 2 (by kernel_rfl) (by kernel_rfl) ?_
     have hs53 := St.f2 hs50
     refine ops_store (off := 0) (cs := [(.int .i64 0), (.int .u64 0), (.int .u64 0), (.string ByteArray.empty)]) (vs := [(.int .i64 0), (.int .u64 0), (.int .u64 0), (.string ByteArray.empty)]) hs53 (by kernel_rfl) (by simp) rfl (fun w51 hs52 => ?_)
     have hs54 : St B w [] w51 [blk b4 (.cells [(.int .i64 0), (.int .u64 0), (.int .u64 0), (.string ByteArray.empty)].toArray 46 (0, 0)), blk b29 (.cells [(.bool r22.1), (.int .u64 r22.2.1), (.int .u64 r22.2.2.1)].toArray 48 (0, 0)), blk b8 (.cells [(.int .i64 0), (.int .u64 0), (.int .u64 0), (.string ByteArray.empty)].toArray 46 (0, 0))] := hs52
     have hs55 := St.f2 hs54
     have hs56 := St.f2 hs55
     refine ops_done (by kernel_rfl) ⟨hs56, ?_⟩
     refine any_val (v := (.int .i64 0)) (v' := (.int .i64 0)) 3 (by kernel_rfl) (fun _ => by kernel_rfl) rfl hs56 ?_
     refine any_done (by kernel_rfl) ?_
     refine hK49 _ _ ?_
     refine W.ret (ret_block (ret_seq ?_))
     obtain rfl := some_inj hm
     have hs57 := St.tk0 hs54
     refine ret_of (.tuple #[(.int .u8 3), (.agg #[(.int .i64 0), (.int .u64 0), (.int .u64 0), (.string ByteArray.empty)]), (.int .i64 0)]) (resS_of (by kernel_rfl) (resD_three rfl (.tmp (by kernel_rfl)) (.agg (ad := ⟨b4, 0, none⟩) (cs := [(.int .i64 0), (.int .u64 0), (.int .u64 0), (.string ByteArray.empty)]) (by kernel_rfl) (by kernel_rfl) (cells_sub (hs54.heapAt 0 rfl) rfl)) (.tmp (by kernel_rfl)))) ⟨_, ⟨rfl, rfl⟩, hs57⟩
    ·
     obtain ⟨h48p, hm⟩ := iN hm h48
     refine W.skip ?_
     refine normal_block ?_
     refine hK33 _ _ ?_
     refine W.sr fun K58 hK58 => ?_
     refine zR 4 ?_
     obtain ⟨h59, hm⟩ := need_some hm
     refine zI _ (wrap_i64 h59.1 h59.2) ?_
     obtain ⟨r60, h61, hm⟩ := bind_some hm
     refine zC00 hs32 (sload_walk (i_ := i_) (k_ := q_.tmod 4) (img := img) (l := l) (hL := (hs32.oldCells hL)) (hv := (viewAt_old hs32 hv)) (hm := h61) B _) fun w62 hs64 => ?_
     refine zR 4 ?_
     refine zN [(.int .i64 0), (.int .u64 0), (.int .u64 0), (.string ByteArray.empty)] 46 hs64 fun b67 w65 hs66 => ?_
     refine zR 1 ?_
     refine ops_store (off := 0) (cs := [(.int .i64 0), (.int .u64 0), (.int .u64 0), (.string ByteArray.empty)]) (vs := [(.int .i64 r60.2.1), (.int .u64 r60.2.2.1), (.int .u64 r60.2.2.2.1), (.string r60.2.2.2.2.1)]) hs66 (by kernel_rfl) (by simp) rfl (fun w68 hs69 => ?_)
     have hs70 : St B w [] w68 [blk b67 (.cells [(.int .i64 r60.2.1), (.int .u64 r60.2.2.1), (.int .u64 r60.2.2.2.1), (.string r60.2.2.2.2.1)].toArray 46 (0, 0)), blk b29 (.cells [(.bool r22.1), (.int .u64 r22.2.1), (.int .u64 r22.2.2.1)].toArray 48 (0, 0)), blk b8 (.cells [(.int .i64 0), (.int .u64 0), (.int .u64 0), (.string ByteArray.empty)].toArray 46 (0, 0)), blk b4 (.cells [(.int .i64 0), (.int .u64 0), (.int .u64 0), (.string ByteArray.empty)].toArray 46 (0, 0))] := hs69
     refine zE 1 (hK58 _ _ ?_)
     refine W.seq fun K71 hK71 => ?_
     refine W.seq_join (fun s_ w_ => ∃ (p72 : Bool), (∃ us, s_ = slots 70 [(9, (.pointer (some ⟨b4, 0, none⟩))), (11, (.pointer (some ⟨b8, 0, none⟩))), (14, (.int .i64 r60.2.2.2.2.2)), (16, (.pointer (some ⟨b67, 0, none⟩))), (66, (.bool p72))] us) ∧ St B w [] w_ [blk b4 (.cells [(.int .i64 0), (.int .u64 0), (.int .u64 0), (.string ByteArray.empty)].toArray 46 (0, 0)), blk b8 (.cells [(.int .i64 0), (.int .u64 0), (.int .u64 0), (.string ByteArray.empty)].toArray 46 (0, 0)), blk b67 (.cells [(.int .i64 r60.2.1), (.int .u64 r60.2.2.1), (.int .u64 r60.2.2.2.1), (.string r60.2.2.2.2.1)].toArray 46 (0, 0)), blk b29 (.cells [(.bool r22.1), (.int .u64 r22.2.1), (.int .u64 r22.2.2.1)].toArray 48 (0, 0))] ∧ cof_J1 r60 p72 = some r) ?_ ?_
     ·
      rintro _ w73 ⟨p72, ⟨us, rfl⟩, hs74, hm⟩
      unfold cof_J1 at hm
      refine W.cond p72 (by kernel_rfl) (fun h75 => ?_) (fun h75 => ?_)
      ·
       have h75p : p72 = true := h75
       replace hm := ite_yes hm h75p
       refine W.seq fun K76 hK76 => ?_
       have hs77 := hs74.drew
       refine W.regionD [(0, 0), (0, 0), (0, 0), (5, 1), (15, 2)] (fun w_ => St B w [] w_ [blk b4 (.cells [(.int .i64 0), (.int .u64 0), (.int .u64 0), (.string ByteArray.empty)].toArray 46 (0, 0)), blk b8 (.cells [(.int .i64 0), (.int .u64 0), (.int .u64 0), (.string ByteArray.empty)].toArray 46 (0, 0)), blk b67 (.cells [(.int .i64 r60.2.1), (.int .u64 r60.2.2.1), (.int .u64 r60.2.2.2.1), (.string r60.2.2.2.2.1)].toArray 46 (0, 0)), blk b29 (.cells [(.bool r22.1), (.int .u64 r22.2.1), (.int .u64 r22.2.2.1)].toArray 48 (0, 0))]) (by kernel_rfl) hs77 ?_
       refine any_R 0 (by kernel_rfl) (fun _ hS_ => runs_loadAgg (ad := ⟨b8, 0, none⟩) (cs := [(.int .i64 0), (.int .u64 0), (.int .u64 0), (.string ByteArray.empty)]) (by kernel_rfl) (cells_sub (hS_.heapAt 1 rfl) rfl)) hs77 ?_
       refine any_val (v := (.int .i64 r60.2.2.2.2.2)) (v' := (.int .i64 r60.2.2.2.2.2)) 1 (by kernel_rfl) (fun _ => by kernel_rfl) rfl hs77 ?_
       refine any_val (v := (.int .u8 0)) (v' := (.int .u8 0)) 2 (by kernel_rfl) (fun _ => by kernel_rfl) rfl hs77 ?_
       refine any_step 3 (by kernel_rfl) (by kernel_rfl) ?_
       refine ops_store (off := 0) (cs := [(.int .i64 0), (.int .u64 0), (.int .u64 0), (.string ByteArray.empty)]) (vs := [(.int .i64 0), (.int .u64 0), (.int .u64 0), (.string ByteArray.empty)]) hs77 (by kernel_rfl) (by simp) rfl (fun w78 hs79 => ?_)
       have hs80 : St B w [] w78 [blk b4 (.cells [(.int .i64 0), (.int .u64 0), (.int .u64 0), (.string ByteArray.empty)].toArray 46 (0, 0)), blk b8 (.cells [(.int .i64 0), (.int .u64 0), (.int .u64 0), (.string ByteArray.empty)].toArray 46 (0, 0)), blk b67 (.cells [(.int .i64 r60.2.1), (.int .u64 r60.2.2.1), (.int .u64 r60.2.2.2.1), (.string r60.2.2.2.2.1)].toArray 46 (0, 0)), blk b29 (.cells [(.bool r22.1), (.int .u64 r22.2.1), (.int .u64 r22.2.2.1)].toArray 48 (0, 0))] := hs79
       refine ops_done (by kernel_rfl) ⟨hs80, ?_⟩
       refine any_val (v := (.int .i64 r60.2.2.2.2.2)) (v' := (.int .i64 r60.2.2.2.2.2)) 4 (by kernel_rfl) (fun _ => by kernel_rfl) rfl hs80 ?_
       refine any_done (by kernel_rfl) ?_
       refine hK76 _ _ ?_
       refine W.ret (ret_seq ?_)
       obtain rfl := some_inj hm
       have hs81 := St.tk0 hs80
       refine ret_of (.tuple #[(.int .u8 0), (.agg #[(.int .i64 0), (.int .u64 0), (.int .u64 0), (.string ByteArray.empty)]), (.int .i64 r60.2.2.2.2.2)]) (resS_of (by kernel_rfl) (resD_three rfl (.tmp (by kernel_rfl)) (.agg (ad := ⟨b4, 0, none⟩) (cs := [(.int .i64 0), (.int .u64 0), (.int .u64 0), (.string ByteArray.empty)]) (by kernel_rfl) (by kernel_rfl) (cells_sub (hs80.heapAt 0 rfl) rfl)) (.tmp (by kernel_rfl)))) ⟨_, ⟨rfl, rfl⟩, hs81⟩
      ·
       have h75p : ¬ (p72 = true) := ne_true_of_eq_false h75
       replace hm := ite_no hm h75p
       refine W.skip ?_
       refine hK71 _ _ ?_
       refine W.seq fun K82 hK82 => ?_
       have hs83 := hs74.drew
       have hs84 := St.f3 hs83
       have hs85 := St.f3 hs84
       have hs86 := St.f3 hs85
       have hs87 := St.tk3 hs86
       refine W.regionD [(0, 0), (0, 0), (3, 1), (7, 0)] (fun w_ => St B w [] w_ [blk b8 (.cells [(.int .i64 0), (.int .u64 0), (.int .u64 0), (.string ByteArray.empty)].toArray 46 (0, 0)), blk b67 (.cells [(.int .i64 r60.2.1), (.int .u64 r60.2.2.1), (.int .u64 r60.2.2.2.1), (.string r60.2.2.2.2.1)].toArray 46 (0, 0)), blk b29 (.cells [(.bool r22.1), (.int .u64 r22.2.1), (.int .u64 r22.2.2.1)].toArray 48 (0, 0))]) (by kernel_rfl) hs87 ?_
       refine any_R 0 (by kernel_rfl) (fun _ hS_ => runs_loadAgg (ad := ⟨b67, 0, none⟩) (cs := [(.int .i64 r60.2.1), (.int .u64 r60.2.2.1), (.int .u64 r60.2.2.2.1), (.string r60.2.2.2.2.1)]) (by kernel_rfl) (cells_sub (hS_.heapAt 1 rfl) rfl)) hs87 ?_
       refine any_val (v := (.int .u8 1)) (v' := (.int .u8 1)) 1 (by kernel_rfl) (fun _ => by kernel_rfl) rfl hs87 ?_
       refine any_step 2 (by kernel_rfl) (by kernel_rfl) ?_
       refine ops_store (off := 0) (cs := [(.int .i64 0), (.int .u64 0), (.int .u64 0), (.string ByteArray.empty)]) (vs := [(.int .i64 r60.2.1), (.int .u64 r60.2.2.1), (.int .u64 r60.2.2.2.1), (.string r60.2.2.2.2.1)]) hs83 (by kernel_rfl) (by simp) rfl (fun w88 hs89 => ?_)
       have hs90 : St B w [] w88 [blk b4 (.cells [(.int .i64 r60.2.1), (.int .u64 r60.2.2.1), (.int .u64 r60.2.2.2.1), (.string r60.2.2.2.2.1)].toArray 46 (0, 0)), blk b8 (.cells [(.int .i64 0), (.int .u64 0), (.int .u64 0), (.string ByteArray.empty)].toArray 46 (0, 0)), blk b67 (.cells [(.int .i64 r60.2.1), (.int .u64 r60.2.2.1), (.int .u64 r60.2.2.2.1), (.string r60.2.2.2.2.1)].toArray 46 (0, 0)), blk b29 (.cells [(.bool r22.1), (.int .u64 r22.2.1), (.int .u64 r22.2.2.1)].toArray 48 (0, 0))] := hs89
       have hs91 := St.f3 hs90
       have hs92 := St.f3 hs91
       have hs93 := St.f3 hs92
       have hs94 := St.tk3 hs93
       refine ops_done (by kernel_rfl) ⟨hs94, ?_⟩
       refine any_val (v := (.int .i64 0)) (v' := (.int .i64 0)) 3 (by kernel_rfl) (fun _ => by kernel_rfl) rfl hs94 ?_
       refine any_done (by kernel_rfl) ?_
       refine hK82 _ _ ?_
       refine W.ret ?_
       obtain rfl := some_inj hm
       have hs95 := St.tk0 hs90
       refine ret_of (.tuple #[(.int .u8 1), (.agg #[(.int .i64 r60.2.1), (.int .u64 r60.2.2.1), (.int .u64 r60.2.2.2.1), (.string r60.2.2.2.2.1)]), (.int .i64 0)]) (resS_of (by kernel_rfl) (resD_three rfl (.tmp (by kernel_rfl)) (.agg (ad := ⟨b4, 0, none⟩) (cs := [(.int .i64 r60.2.1), (.int .u64 r60.2.2.1), (.int .u64 r60.2.2.2.1), (.string r60.2.2.2.2.1)]) (by kernel_rfl) (by kernel_rfl) (cells_sub (hs90.heapAt 0 rfl) rfl)) (.tmp (by kernel_rfl)))) ⟨_, ⟨rfl, rfl⟩, hs95⟩
     ·
      refine W.region ?_
      refine zR 3 ?_
      rcases Bool.eq_false_or_eq_true (!decide (r60.2.2.2.2.2 = 0)) with h96 | h96
      rotate_left
      ·
       have h96p : r60.2.2.2.2.2 = 0 := of_decide_eq_true (bnot_false h96)
       replace hm := ite_yes hm h96p
       refine zS 62 h96 ?_
       refine zS 61 h96 ?_
       refine zE 4 ?_
       have hs97 := St.f1 hs70
       have hs98 := St.f1 hs97
       have hs99 := St.f2 hs98
       have hs100 := St.f3 hs99
       exact ⟨(!decide (r60.1 = q_)), slots_intro _ (by kernel_rfl), hs100, hm⟩
      ·
       have h96p : ¬ (r60.2.2.2.2.2 = 0) := of_decide_eq_false (bnot_true h96)
       replace hm := ite_no hm h96p
       refine zS 62 h96 ?_
       refine zS 61 h96 ?_
       refine zE 4 ?_
       have hs101 := St.f1 hs70
       have hs102 := St.f1 hs101
       have hs103 := St.f2 hs102
       have hs104 := St.f3 hs103
       exact ⟨true, slots_intro _ (by kernel_rfl), hs104, hm⟩
  ·
   have h35p : ¬ (r22.2.2.2 = 0) := of_decide_eq_false (bnot_true h35)
   replace hm := ite_no hm h35p
   refine W.seq fun K105 hK105 => ?_
   have hs106 := hs32.drew
   refine W.regionD [(0, 0), (0, 0), (0, 0), (5, 1), (15, 2)] (fun w_ => St B w [] w_ [blk b29 (.cells [(.bool r22.1), (.int .u64 r22.2.1), (.int .u64 r22.2.2.1)].toArray 48 (0, 0)), blk b8 (.cells [(.int .i64 0), (.int .u64 0), (.int .u64 0), (.string ByteArray.empty)].toArray 46 (0, 0)), blk b4 (.cells [(.int .i64 0), (.int .u64 0), (.int .u64 0), (.string ByteArray.empty)].toArray 46 (0, 0))]) (by kernel_rfl) hs106 ?_
   refine any_R 0 (by kernel_rfl) (fun _ hS_ => runs_loadAgg (ad := ⟨b8, 0, none⟩) (cs := [(.int .i64 0), (.int .u64 0), (.int .u64 0), (.string ByteArray.empty)]) (by kernel_rfl) (cells_sub (hS_.heapAt 1 rfl) rfl)) hs106 ?_
   refine any_val (v := (.int .i64 r22.2.2.2)) (v' := (.int .i64 r22.2.2.2)) 1 (by kernel_rfl) (fun _ => by kernel_rfl) rfl hs106 ?_
   refine any_val (v := (.int .u8 0)) (v' := (.int .u8 0)) 2 (by kernel_rfl) (fun _ => by kernel_rfl) rfl hs106 ?_
   refine any_step 3 (by kernel_rfl) (by kernel_rfl) ?_
   have hs109 := St.f2 hs106
   refine ops_store (off := 0) (cs := [(.int .i64 0), (.int .u64 0), (.int .u64 0), (.string ByteArray.empty)]) (vs := [(.int .i64 0), (.int .u64 0), (.int .u64 0), (.string ByteArray.empty)]) hs109 (by kernel_rfl) (by simp) rfl (fun w107 hs108 => ?_)
   have hs110 : St B w [] w107 [blk b4 (.cells [(.int .i64 0), (.int .u64 0), (.int .u64 0), (.string ByteArray.empty)].toArray 46 (0, 0)), blk b29 (.cells [(.bool r22.1), (.int .u64 r22.2.1), (.int .u64 r22.2.2.1)].toArray 48 (0, 0)), blk b8 (.cells [(.int .i64 0), (.int .u64 0), (.int .u64 0), (.string ByteArray.empty)].toArray 46 (0, 0))] := hs108
   have hs111 := St.f2 hs110
   have hs112 := St.f2 hs111
   refine ops_done (by kernel_rfl) ⟨hs112, ?_⟩
   refine any_val (v := (.int .i64 r22.2.2.2)) (v' := (.int .i64 r22.2.2.2)) 4 (by kernel_rfl) (fun _ => by kernel_rfl) rfl hs112 ?_
   refine any_done (by kernel_rfl) ?_
   refine hK105 _ _ ?_
   refine W.ret (ret_block (ret_seq ?_))
   obtain rfl := some_inj hm
   have hs113 := St.tk0 hs110
   refine ret_of (.tuple #[(.int .u8 0), (.agg #[(.int .i64 0), (.int .u64 0), (.int .u64 0), (.string ByteArray.empty)]), (.int .i64 r22.2.2.2)]) (resS_of (by kernel_rfl) (resD_three rfl (.tmp (by kernel_rfl)) (.agg (ad := ⟨b4, 0, none⟩) (cs := [(.int .i64 0), (.int .u64 0), (.int .u64 0), (.string ByteArray.empty)]) (by kernel_rfl) (by kernel_rfl) (cells_sub (hs110.heapAt 0 rfl) rfl)) (.tmp (by kernel_rfl)))) ⟨_, ⟨rfl, rfl⟩, hs113⟩
 ·
  have h20p : ¬ (r14 = 0) := of_decide_eq_false (bnot_true h20)
  replace hm := ite_no hm h20p
  refine W.seq fun K114 hK114 => ?_
  have hs115 := hs18.drew
  refine W.regionD [(0, 0), (0, 0), (0, 0), (5, 1), (15, 2)] (fun w_ => St B w [] w_ [blk b8 (.cells [(.int .i64 0), (.int .u64 0), (.int .u64 0), (.string ByteArray.empty)].toArray 46 (0, 0)), blk b4 (.cells [(.int .i64 0), (.int .u64 0), (.int .u64 0), (.string ByteArray.empty)].toArray 46 (0, 0))]) (by kernel_rfl) hs115 ?_
  refine any_R 0 (by kernel_rfl) (fun _ hS_ => runs_loadAgg (ad := ⟨b8, 0, none⟩) (cs := [(.int .i64 0), (.int .u64 0), (.int .u64 0), (.string ByteArray.empty)]) (by kernel_rfl) (cells_sub (hS_.heapAt 0 rfl) rfl)) hs115 ?_
  refine any_val (v := (.int .i64 r14)) (v' := (.int .i64 r14)) 1 (by kernel_rfl) (fun _ => by kernel_rfl) rfl hs115 ?_
  refine any_val (v := (.int .u8 0)) (v' := (.int .u8 0)) 2 (by kernel_rfl) (fun _ => by kernel_rfl) rfl hs115 ?_
  refine any_step 3 (by kernel_rfl) (by kernel_rfl) ?_
  have hs118 := St.f1 hs115
  refine ops_store (off := 0) (cs := [(.int .i64 0), (.int .u64 0), (.int .u64 0), (.string ByteArray.empty)]) (vs := [(.int .i64 0), (.int .u64 0), (.int .u64 0), (.string ByteArray.empty)]) hs118 (by kernel_rfl) (by simp) rfl (fun w116 hs117 => ?_)
  have hs119 : St B w [] w116 [blk b4 (.cells [(.int .i64 0), (.int .u64 0), (.int .u64 0), (.string ByteArray.empty)].toArray 46 (0, 0)), blk b8 (.cells [(.int .i64 0), (.int .u64 0), (.int .u64 0), (.string ByteArray.empty)].toArray 46 (0, 0))] := hs117
  have hs120 := St.f1 hs119
  refine ops_done (by kernel_rfl) ⟨hs120, ?_⟩
  refine any_val (v := (.int .i64 r14)) (v' := (.int .i64 r14)) 4 (by kernel_rfl) (fun _ => by kernel_rfl) rfl hs120 ?_
  refine any_done (by kernel_rfl) ?_
  refine hK114 _ _ ?_
  refine W.ret (ret_seq ?_)
  obtain rfl := some_inj hm
  have hs121 := St.tk0 hs119
  refine ret_of (.tuple #[(.int .u8 0), (.agg #[(.int .i64 0), (.int .u64 0), (.int .u64 0), (.string ByteArray.empty)]), (.int .i64 r14)]) (resS_of (by kernel_rfl) (resD_three rfl (.tmp (by kernel_rfl)) (.agg (ad := ⟨b4, 0, none⟩) (cs := [(.int .i64 0), (.int .u64 0), (.int .u64 0), (.string ByteArray.empty)]) (by kernel_rfl) (by kernel_rfl) (cells_sub (hs119.heapAt 0 rfl) rfl)) (.tmp (by kernel_rfl)))) ⟨_, ⟨rfl, rfl⟩, hs121⟩

def cack_J1 (img : List Int) (l : List (Int × Int)) (i_ : Int) (r12 : Bool × Int × Int × Int) (p26 : Int) : Option (Int × Int × List (Int × Int)) :=
 (sput_M img l i_ r12.1 r12.2.1 p26).bind fun r31 =>
if r31.1 = 0 then (some (p26, 0, r31.2)) else (some (0, r31.1, r31.2))

def cack_B0 (img : List Int) (l : List (Int × Int)) (i_ : Int) (q_ : Int) (r12 : Bool × Int × Int × Int) (k43 : Int → Option (Int × Int × List (Int × Int))) (p42 : Int) : Option (Int × Int × List (Int × Int)) :=
 if p42 < q_ then ((some ((p42 + 1) % 18446744073709551616)).bind fun r52 =>
need (-9223372036854775808 ≤ (r52.tmod 4) ∧ (r52.tmod 4) ≤ 9223372036854775807) <|
(sload_M img l i_ (r52.tmod 4)).bind fun r56 =>
if r56.2.2.2.2.2 = 0 then (if r56.1 = r52 then (k43 r52) else (cack_J1 img l i_ r12 p42)) else (some (0, r56.2.2.2.2.2, l))) else (cack_J1 img l i_ r12 p42)

def cack_M (img : List Int) (l : List (Int × Int)) (i_ : Int) (g_ : Int) (q_ : Int) : Option (Int × Int × List (Int × Int)) :=
 (cmay_M q_ 0).bind fun r4 =>
if r4 = 0 then ((copened_M img l i_ g_).bind fun r12 =>
if r12.2.2.2 = 0 then (iter (fun k_ s_ => cack_B0 img l i_ q_ r12 k_ s_) FUEL r12.2.2.1) else (some (0, r12.2.2.2, l))) else (some (0, r4, l))

theorem cack_walk {img : List Int} {l : List (Int × Int)} {i_ : Int} {g_ : Int} {q_ : Int} {vb : Nat} {r : Int × Int × List (Int × Int)} (B : Nat) (w : World) (hG2 : 1 < B) (hL : CellsAt (some ⟨1, 0, none⟩) [(.int .i64 1), (.int .i64 2), (.int .i64 2)] w) (hm : cack_M img l i_ g_ q_ = some r) : Spec Tryd.prog 68 #[(.pointer (some ⟨vb, 0, none⟩)), (.int .i64 i_), (.int .u64 g_), (.int .u64 q_)] B w [viewA (ptr vb) img l] (fun v H' => v = (.tuple #[(.int .u64 r.1), (.int .i64 r.2.1)]) ∧ H' = [viewA (ptr vb) img r.2.2]) := by
 refine spec_W Tryd.func68 rfl fun l0 hs => ?_
 unfold cack_M at hm
 refine W.sr fun K1 hK1 => ?_
 refine zE 2 (hK1 _ _ ?_)
 refine W.seq fun K2 hK2 => ?_
 refine W.sr fun K3 hK3 => ?_
 refine zR 2 ?_
 obtain ⟨r4, h5, hm⟩ := bind_some hm
 refine zC00 hs (cmay_walk (q_ := q_) (t_ := 0) (img := img) (l := l) (hv := (hs.entAt 0 rfl viewA_at)) (hm := h5) B _) fun w6 hs8 => ?_
 refine zE 1 (hK3 _ _ ?_)
 refine W.sr fun K9 hK9 => ?_
 refine zE 2 (hK9 _ _ ?_)
 refine W.cond (!decide (r4 = 0)) (by kernel_rfl) (fun h10 => ?_) (fun h10 => ?_)
 rotate_left
 ·
  have h10p : r4 = 0 := of_decide_eq_true (bnot_false h10)
  replace hm := ite_yes hm h10p
  refine W.skip ?_
  refine hK2 _ _ ?_
  refine W.sr fun K11 hK11 => ?_
  refine zR 3 ?_
  obtain ⟨r12, h13, hm⟩ := bind_some hm
  refine zC00 hs8 (copened_walk (i_ := i_) (g_ := g_) (img := img) (l := l) (hL := (hs8.oldCellsB hG2 hL)) (hv := (hs8.entAt 0 rfl viewA_at)) (hm := h13) B _) fun w14 hs16 => ?_
  refine zR 3 ?_
  refine zN [(.bool false), (.int .u64 0), (.int .u64 0)] 48 hs16 fun b19 w17 hs18 => ?_
  refine ops_store (off := 0) (cs := [(.bool false), (.int .u64 0), (.int .u64 0)]) (vs := [(.bool r12.1), (.int .u64 r12.2.1), (.int .u64 r12.2.2.1)]) hs18 (by kernel_rfl) (by simp) rfl (fun w20 hs21 => ?_)
  have hs22 : St B w l0 w20 [blk b19 (.cells [(.bool r12.1), (.int .u64 r12.2.1), (.int .u64 r12.2.2.1)].toArray 48 (0, 0)), viewA (ptr vb) img l] := hs21
  refine zE 1 (hK11 _ _ ?_)
  refine W.seq fun K23 hK23 => ?_
  refine W.sr fun K24 hK24 => ?_
  refine zE 2 (hK24 _ _ ?_)
  refine W.cond (!decide (r12.2.2.2 = 0)) (by kernel_rfl) (fun h25 => ?_) (fun h25 => ?_)
  rotate_left
  ·
   have h25p : r12.2.2.2 = 0 := of_decide_eq_true (bnot_false h25)
   replace hm := ite_yes hm h25p
   refine W.skip ?_
   refine hK23 _ _ ?_
   refine W.seq_join (fun s_ w_ => ∃ (p26 : Int), (∃ us, s_ = slots 67 [(0, (.pointer (some ⟨vb, 0, none⟩))), (1, (.int .i64 i_)), (11, (.pointer (some ⟨b19, 0, none⟩)))] us) ∧ St B w l0 w_ [viewA (ptr vb) img l, blk b19 (.cells [(.bool r12.1), (.int .u64 r12.2.1), (.int .u64 p26)].toArray 48 (0, 0))] ∧ cack_J1 img l i_ r12 p26 = some r) ?_ ?_
   ·
    rintro _ w27 ⟨p26, ⟨us, rfl⟩, hs28, hm⟩
    unfold cack_J1 at hm
    refine W.seq fun K29 hK29 => ?_
    refine W.sr fun K30 hK30 => ?_
    refine zR 2 ?_
    refine ops_R (runs_loadAgg (ad := ⟨b19, 0, none⟩) (cs := [(.bool r12.1), (.int .u64 r12.2.1), (.int .u64 p26)]) (by kernel_rfl) (cells_sub (hs28.heapAt 1 rfl) rfl)) ?_
    obtain ⟨r31, h32, hm⟩ := bind_some hm
    refine zC11 hs28 (sput_walk (vb := vb) (i_ := i_) (ho_ := r12.1) (hg_ := r12.2.1) (hk_ := p26) (img := img) (l := l) (hG2 := hG2) (hL := (hs28.oldCellsB hG2 hL)) (hm := h32) B _) fun w33 hs35 => ?_
    refine zE 1 (hK30 _ _ ?_)
    refine W.sr fun K36 hK36 => ?_
    refine zE 2 (hK36 _ _ ?_)
    refine W.cond (!decide (r31.1 = 0)) (by kernel_rfl) (fun h37 => ?_) (fun h37 => ?_)
    rotate_left
    ·
     have h37p : r31.1 = 0 := of_decide_eq_true (bnot_false h37)
     replace hm := ite_yes hm h37p
     refine W.skip ?_
     refine hK29 _ _ ?_
     refine W.sr fun K38 hK38 => ?_
     refine zR 1 ?_
     refine zL ⟨b19, 2, none⟩ (.int .u64 p26) (hs35.cellAt 1 rfl rfl) ?_
     refine zE 2 (hK38 _ _ ?_)
     refine W.ret ?_
     obtain rfl := some_inj hm
     have hs39 := St.tk1 hs35
     refine ret_of (.tuple #[(.int .u64 p26), (.int .i64 0)]) (by kernel_rfl) ⟨_, ⟨rfl, rfl⟩, hs39⟩
    ·
     have h37p : ¬ (r31.1 = 0) := of_decide_eq_false (bnot_true h37)
     replace hm := ite_no hm h37p
     refine W.sr fun K40 hK40 => ?_
     refine zE 3 (hK40 _ _ ?_)
     refine W.ret (ret_seq ?_)
     obtain rfl := some_inj hm
     have hs41 := St.tk1 hs35
     refine ret_of (.tuple #[(.int .u64 0), (.int .i64 r31.1)]) (by kernel_rfl) ⟨_, ⟨rfl, rfl⟩, hs41⟩
   ·
    refine W.block ?_
    have hs47 := St.f1 hs22
    refine W.loop_iter (G := Int) (σ := Int) (fun | p42 => p42) (fun | p42, s_, w_ => (∃ us, s_ = slots 67 [(0, (.pointer (some ⟨vb, 0, none⟩))), (1, (.int .i64 i_)), (3, (.int .u64 q_)), (11, (.pointer (some ⟨b19, 0, none⟩)))] us) ∧ St B w l0 w_ [viewA (ptr vb) img l, blk b19 (.cells [(.bool r12.1), (.int .u64 r12.2.1), (.int .u64 p42)].toArray 48 (0, 0))]) r12.2.2.1 ⟨slots_intro _ (by kernel_rfl), hs47⟩ hm ?_
    rintro k43 ih44 p42 _ w45 ⟨⟨us, rfl⟩, hs46⟩ hm
    replace hm : cack_B0 img l i_ q_ r12 k43 p42 = some r := hm
    unfold cack_B0 at hm
    refine W.seq fun K48 hK48 => ?_
    refine W.sr fun K49 hK49 => ?_
    refine zR 1 ?_
    refine zL ⟨b19, 2, none⟩ (.int .u64 p42) (hs46.cellAt 1 rfl rfl) ?_
    refine zE 2 (hK49 _ _ ?_)
    refine W.cond (decide (p42 < q_)) (by kernel_rfl) (fun h50 => ?_) (fun h50 => ?_)
    ·
     obtain ⟨h50p, hm⟩ := iY hm h50
     refine W.skip ?_
     refine hK48 _ _ ?_
     refine W.block ?_
     refine W.sr fun K51 hK51 => ?_
     refine zR 1 ?_
     refine zL ⟨b19, 2, none⟩ (.int .u64 p42) (hs46.cellAt 1 rfl rfl) ?_
     refine ops_val (v := .int .u64 (IntKind.u64.wrap (p42 + 1))) (v' := .int .u64 ((p42 + 1) % 18446744073709551616)) (by kernel_rfl) (congrArg (Value.int .u64) (wrap_u64_mod _)) ?_
     refine zR 1 ?_
     obtain ⟨r52, h53, hm⟩ := bind_some hm
     replace h53 := some_inj h53
     refine ops_set 12 (v := .int .u64 r52) (Eq.trans (by kernel_rfl) (congrArg (Value.int .u64) h53)) ?_
     refine zD (hK51 _ _ ?_)
     refine W.sr fun K54 hK54 => ?_
     refine zR 4 ?_
     obtain ⟨h55, hm⟩ := need_some hm
     refine zI _ (wrap_i64 h55.1 h55.2) ?_
     obtain ⟨r56, h57, hm⟩ := bind_some hm
     refine zC00 hs46 (sload_walk (i_ := i_) (k_ := r52.tmod 4) (img := img) (l := l) (hL := (hs46.oldCellsB hG2 hL)) (hv := (hs46.entAt 0 rfl viewA_at)) (hm := h57) B _) fun w58 hs60 => ?_
     refine zR 4 ?_
     refine zN [(.int .i64 0), (.int .u64 0), (.int .u64 0), (.string ByteArray.empty)] 46 hs60 fun b63 w61 hs62 => ?_
     refine zR 1 ?_
     refine ops_store (off := 0) (cs := [(.int .i64 0), (.int .u64 0), (.int .u64 0), (.string ByteArray.empty)]) (vs := [(.int .i64 r56.2.1), (.int .u64 r56.2.2.1), (.int .u64 r56.2.2.2.1), (.string r56.2.2.2.2.1)]) hs62 (by kernel_rfl) (by simp) rfl (fun w64 hs65 => ?_)
     have hs66 : St B w l0 w64 [blk b63 (.cells [(.int .i64 r56.2.1), (.int .u64 r56.2.2.1), (.int .u64 r56.2.2.2.1), (.string r56.2.2.2.2.1)].toArray 46 (0, 0)), viewA (ptr vb) img l, blk b19 (.cells [(.bool r12.1), (.int .u64 r12.2.1), (.int .u64 p42)].toArray 48 (0, 0))] := hs65
     refine zE 1 (hK54 _ _ ?_)
     refine W.seq fun K67 hK67 => ?_
     refine W.sr fun K68 hK68 => ?_
     refine zE 2 (hK68 _ _ ?_)
     refine W.cond (!decide (r56.2.2.2.2.2 = 0)) (by kernel_rfl) (fun h69 => ?_) (fun h69 => ?_)
     rotate_left
     ·
      have h69p : r56.2.2.2.2.2 = 0 := of_decide_eq_true (bnot_false h69)
      replace hm := ite_yes hm h69p
      refine W.skip ?_
      refine hK67 _ _ ?_
      refine W.seq fun K70 hK70 => ?_
      refine W.sr fun K71 hK71 => ?_
      refine zE 3 (hK71 _ _ ?_)
      refine W.cond (!decide (r56.1 = r52)) (by kernel_rfl) (fun h72 => ?_) (fun h72 => ?_)
      rotate_left
      ·
       have h72p : r56.1 = r52 := of_decide_eq_true (bnot_false h72)
       replace hm := ite_yes hm h72p
       refine W.skip ?_
       refine hK70 _ _ ?_
       refine W.region ?_
       refine zR 2 ?_
       have hs75 := St.f2 hs66
       refine ops_store (off := 2) (cs := [(.bool r12.1), (.int .u64 r12.2.1), (.int .u64 p42)]) (vs := [(.int .u64 r52)]) hs75 (by kernel_rfl) (by simp) rfl (fun w73 hs74 => ?_)
       have hs76 : St B w l0 w73 [blk b19 (.cells [(.bool r12.1), (.int .u64 r12.2.1), (.int .u64 r52)].toArray 48 (0, 0)), blk b63 (.cells [(.int .i64 r56.2.1), (.int .u64 r56.2.2.1), (.int .u64 r56.2.2.2.1), (.string r56.2.2.2.2.1)].toArray 46 (0, 0)), viewA (ptr vb) img l] := hs74
       refine zD ?_
       refine normal_block ?_
       have hs77 := St.f2 hs76
       have hs78 := St.tk2 hs77
       refine loopAt_next ?_
       exact ih44 r52 _ _ ⟨slots_intro _ (by kernel_rfl), hs78⟩ hm
      ·
       have h72p : ¬ (r56.1 = r52) := of_decide_eq_false (bnot_true h72)
       replace hm := ite_no hm h72p
       refine W.exit (exit_seq (exit_block (by decide) (exit_seq (exit_here ?_))))
       have hs79 := St.f2 hs66
       have hs80 := St.f2 hs79
       have hs81 := St.tk2 hs80
       exact ⟨p42, slots_intro _ (by kernel_rfl), hs81, hm⟩
     ·
      have h69p : ¬ (r56.2.2.2.2.2 = 0) := of_decide_eq_false (bnot_true h69)
      replace hm := ite_no hm h69p
      refine W.sr fun K82 hK82 => ?_
      refine zE 3 (hK82 _ _ ?_)
      refine W.ret (ret_seq (ret_block (ret_seq (ret_block (ret_seq ?_)))))
      obtain rfl := some_inj hm
      have hs83 := St.f1 hs66
      have hs84 := St.tk1 hs83
      refine ret_of (.tuple #[(.int .u64 0), (.int .i64 r56.2.2.2.2.2)]) (by kernel_rfl) ⟨_, ⟨rfl, rfl⟩, hs84⟩
    ·
     obtain ⟨h50p, hm⟩ := iN hm h50
     refine W.exit (exit_seq (exit_seq (exit_here ?_)))
     exact ⟨p42, slots_intro _ (by kernel_rfl), hs46, hm⟩
  ·
   have h25p : ¬ (r12.2.2.2 = 0) := of_decide_eq_false (bnot_true h25)
   replace hm := ite_no hm h25p
   refine W.sr fun K85 hK85 => ?_
   refine zE 3 (hK85 _ _ ?_)
   refine W.ret (ret_seq ?_)
   obtain rfl := some_inj hm
   have hs86 := St.f1 hs22
   have hs87 := St.tk1 hs86
   refine ret_of (.tuple #[(.int .u64 0), (.int .i64 r12.2.2.2)]) (by kernel_rfl) ⟨_, ⟨rfl, rfl⟩, hs87⟩
 ·
  have h10p : ¬ (r4 = 0) := of_decide_eq_false (bnot_true h10)
  replace hm := ite_no hm h10p
  refine W.sr fun K88 hK88 => ?_
  refine zE 3 (hK88 _ _ ?_)
  refine W.ret (ret_seq ?_)
  obtain rfl := some_inj hm
  refine ret_of (.tuple #[(.int .u64 0), (.int .i64 r4)]) (by kernel_rfl) ⟨_, ⟨rfl, rfl⟩, hs8⟩

def copen_J1 (img : List Int) (l : List (Int × Int)) (i_ : Int) (g_ : Int) : Option (Int × Int × List (Int × Int)) :=
 (sput_M img l i_ true g_ 0).bind fun r26 =>
if r26.1 = 0 then ((swipe_M img r26.2 i_).bind fun r34 =>
some (0, r34.1, r34.2)) else (some (0, r26.1, r26.2))

def copen_J2 (img : List Int) (l : List (Int × Int)) (i_ : Int) (g_ : Int) (r12 : Bool × Int × Int × Int) (p45 : Bool) : Option (Int × Int × List (Int × Int)) :=
 if p45 = true then (some (1, 0, l)) else (if g_ ≤ r12.2.1 then (some (2, 0, l)) else (if r12.1 = true then (if r12.1 = true then (some (3, 0, l)) else (copen_J1 img l i_ g_)) else (if ((g_ - r12.2.1) % 18446744073709551616) > 1 then (some (3, 0, l)) else (copen_J1 img l i_ g_))))

def copen_M (img : List Int) (l : List (Int × Int)) (i_ : Int) (g_ : Int) : Option (Int × Int × List (Int × Int)) :=
 (cmay_M g_ 1).bind fun r4 =>
if r4 = 0 then ((sget_M img l i_).bind fun r12 =>
if r12.2.2.2 = 0 then (if r12.1 = true then (copen_J2 img l i_ g_ r12 (decide (g_ = r12.2.1))) else (copen_J2 img l i_ g_ r12 false)) else (some (0, r12.2.2.2, l))) else (some (0, r4, l))

theorem copen_walk {img : List Int} {l : List (Int × Int)} {i_ : Int} {g_ : Int} {vb : Nat} {r : Int × Int × List (Int × Int)} (B : Nat) (w : World) (hG2 : 1 < B) (hL : CellsAt (some ⟨1, 0, none⟩) [(.int .i64 1), (.int .i64 2), (.int .i64 2)] w) (hm : copen_M img l i_ g_ = some r) : Spec Tryd.prog 70 #[(.pointer (some ⟨vb, 0, none⟩)), (.int .i64 i_), (.int .u64 g_)] B w [viewA (ptr vb) img l] (fun v H' => v = (.tuple #[(.int .u8 r.1), (.int .i64 r.2.1)]) ∧ H' = [viewA (ptr vb) img r.2.2]) := by
 refine spec_W Tryd.func70 rfl fun l0 hs => ?_
 unfold copen_M at hm
 refine W.sr fun K1 hK1 => ?_
 refine zE 2 (hK1 _ _ ?_)
 refine W.seq fun K2 hK2 => ?_
 refine W.sr fun K3 hK3 => ?_
 refine zR 2 ?_
 obtain ⟨r4, h5, hm⟩ := bind_some hm
 refine zC00 hs (cmay_walk (q_ := g_) (t_ := 1) (img := img) (l := l) (hv := (hs.entAt 0 rfl viewA_at)) (hm := h5) B _) fun w6 hs8 => ?_
 refine zE 1 (hK3 _ _ ?_)
 refine W.sr fun K9 hK9 => ?_
 refine zE 2 (hK9 _ _ ?_)
 refine W.cond (!decide (r4 = 0)) (by kernel_rfl) (fun h10 => ?_) (fun h10 => ?_)
 rotate_left
 ·
  have h10p : r4 = 0 := of_decide_eq_true (bnot_false h10)
  replace hm := ite_yes hm h10p
  refine W.skip ?_
  refine hK2 _ _ ?_
  refine W.sr fun K11 hK11 => ?_
  refine zR 2 ?_
  obtain ⟨r12, h13, hm⟩ := bind_some hm
  refine zC00 hs8 (sget_walk (i_ := i_) (img := img) (l := l) (hL := (hs8.oldCellsB hG2 hL)) (hv := (hs8.entAt 0 rfl viewA_at)) (hm := h13) B _) fun w14 hs16 => ?_
  refine zR 3 ?_
  refine zN [(.bool false), (.int .u64 0), (.int .u64 0)] 48 hs16 fun b19 w17 hs18 => ?_
  refine ops_store (off := 0) (cs := [(.bool false), (.int .u64 0), (.int .u64 0)]) (vs := [(.bool r12.1), (.int .u64 r12.2.1), (.int .u64 r12.2.2.1)]) hs18 (by kernel_rfl) (by simp) rfl (fun w20 hs21 => ?_)
  have hs22 : St B w l0 w20 [blk b19 (.cells [(.bool r12.1), (.int .u64 r12.2.1), (.int .u64 r12.2.2.1)].toArray 48 (0, 0)), viewA (ptr vb) img l] := hs21
  refine zE 1 (hK11 _ _ ?_)
  refine W.seq_join (fun s_ w_ => (∃ us, s_ = slots 60 [(0, (.pointer (some ⟨vb, 0, none⟩))), (1, (.int .i64 i_)), (2, (.int .u64 g_))] us) ∧ St B w l0 w_ [viewA (ptr vb) img l, blk b19 (.cells [(.bool r12.1), (.int .u64 r12.2.1), (.int .u64 r12.2.2.1)].toArray 48 (0, 0))] ∧ copen_J1 img l i_ g_ = some r) ?_ ?_
  ·
   rintro _ w23 ⟨⟨us, rfl⟩, hs24, hm⟩
   unfold copen_J1 at hm
   refine W.sr fun K25 hK25 => ?_
   refine zR 4 ?_
   obtain ⟨r26, h27, hm⟩ := bind_some hm
   refine zC11 hs24 (sput_walk (vb := vb) (i_ := i_) (ho_ := true) (hg_ := g_) (hk_ := 0) (img := img) (l := l) (hG2 := hG2) (hL := (hs24.oldCellsB hG2 hL)) (hm := h27) B _) fun w28 hs30 => ?_
   refine zE 1 (hK25 _ _ ?_)
   refine W.seq fun K31 hK31 => ?_
   refine W.sr fun K32 hK32 => ?_
   refine zE 2 (hK32 _ _ ?_)
   refine W.cond (decide (r26.1 = 0)) (by kernel_rfl) (fun h33 => ?_) (fun h33 => ?_)
   ·
    obtain ⟨h33p, hm⟩ := iY hm h33
    refine W.region ?_
    refine zR 2 ?_
    obtain ⟨r34, h35, hm⟩ := bind_some hm
    refine zC11 hs30 (swipe_walk (vb := vb) (i_ := i_) (img := img) (l := r26.2) (hG2 := hG2) (hL := (hs30.oldCellsB hG2 hL)) (hm := h35) B _) fun w36 hs38 => ?_
    refine zE 1 (hK31 _ _ ?_)
    refine W.sr fun K39 hK39 => ?_
    refine zE 3 (hK39 _ _ ?_)
    refine W.ret ?_
    obtain rfl := some_inj hm
    have hs40 := St.tk1 hs38
    refine ret_of (.tuple #[(.int .u8 0), (.int .i64 r34.1)]) (by kernel_rfl) ⟨_, ⟨rfl, rfl⟩, hs40⟩
   ·
    obtain ⟨h33p, hm⟩ := iN hm h33
    refine W.skip ?_
    refine hK31 _ _ ?_
    refine W.sr fun K41 hK41 => ?_
    refine zE 3 (hK41 _ _ ?_)
    refine W.ret ?_
    obtain rfl := some_inj hm
    have hs42 := St.tk1 hs30
    refine ret_of (.tuple #[(.int .u8 0), (.int .i64 r26.1)]) (by kernel_rfl) ⟨_, ⟨rfl, rfl⟩, hs42⟩
  ·
   refine W.block ?_
   refine W.sr fun K43 hK43 => ?_
   refine zE 3 (hK43 _ _ ?_)
   refine W.cond (!decide (r12.2.2.2 = 0)) (by kernel_rfl) (fun h44 => ?_) (fun h44 => ?_)
   rotate_left
   ·
    have h44p : r12.2.2.2 = 0 := of_decide_eq_true (bnot_false h44)
    replace hm := ite_yes hm h44p
    refine W.seq_join (fun s_ w_ => ∃ (p45 : Bool), (∃ us, s_ = slots 60 [(0, (.pointer (some ⟨vb, 0, none⟩))), (1, (.int .i64 i_)), (2, (.int .u64 g_)), (9, (.pointer (some ⟨b19, 0, none⟩))), (27, (.bool p45))] us) ∧ St B w l0 w_ [viewA (ptr vb) img l, blk b19 (.cells [(.bool r12.1), (.int .u64 r12.2.1), (.int .u64 r12.2.2.1)].toArray 48 (0, 0))] ∧ copen_J2 img l i_ g_ r12 p45 = some r) ?_ ?_
    ·
     rintro _ w46 ⟨p45, ⟨us, rfl⟩, hs47, hm⟩
     unfold copen_J2 at hm
     refine W.cond p45 (by kernel_rfl) (fun h48 => ?_) (fun h48 => ?_)
     ·
      have h48p : p45 = true := h48
      replace hm := ite_yes hm h48p
      refine W.sr fun K49 hK49 => ?_
      refine zE 2 (hK49 _ _ ?_)
      refine W.ret (ret_block (ret_seq ?_))
      obtain rfl := some_inj hm
      have hs50 := St.tk1 hs47
      refine ret_of (.tuple #[(.int .u8 1), (.int .i64 0)]) (by kernel_rfl) ⟨_, ⟨rfl, rfl⟩, hs50⟩
     ·
      have h48p : ¬ (p45 = true) := ne_true_of_eq_false h48
      replace hm := ite_no hm h48p
      refine W.sr fun K51 hK51 => ?_
      refine zR 2 ?_
      refine zL ⟨b19, 1, none⟩ (.int .u64 r12.2.1) (hs47.cellAt 1 rfl rfl) ?_
      refine zE 2 (hK51 _ _ ?_)
      refine W.cond (decide (g_ ≤ r12.2.1)) (by kernel_rfl) (fun h52 => ?_) (fun h52 => ?_)
      ·
       obtain ⟨h52p, hm⟩ := iY hm h52
       refine W.sr fun K53 hK53 => ?_
       refine zE 2 (hK53 _ _ ?_)
       refine W.ret (ret_block (ret_seq ?_))
       obtain rfl := some_inj hm
       have hs54 := St.tk1 hs47
       refine ret_of (.tuple #[(.int .u8 2), (.int .i64 0)]) (by kernel_rfl) ⟨_, ⟨rfl, rfl⟩, hs54⟩
      ·
       obtain ⟨h52p, hm⟩ := iN hm h52
       refine W.seq fun K55 hK55 => ?_
       refine W.sr fun K56 hK56 => ?_
       refine zR 1 ?_
       refine zL ⟨b19, 0, none⟩ (.bool r12.1) (hs47.cellAt 1 rfl rfl) ?_
       refine zE 1 (hK56 _ _ ?_)
       refine W.cond r12.1 (by kernel_rfl) (fun h57 => ?_) (fun h57 => ?_)
       ·
        have h57p : r12.1 = true := h57
        replace hm := ite_yes hm h57p
        refine W.skip ?_
        refine hK55 _ _ ?_
        refine W.cond r12.1 (by kernel_rfl) (fun h58 => ?_) (fun h58 => ?_)
        ·
         have h58p : r12.1 = true := h58
         replace hm := ite_yes hm h58p
         refine W.sr fun K59 hK59 => ?_
         refine zE 2 (hK59 _ _ ?_)
         refine W.ret (ret_block (ret_seq ?_))
         obtain rfl := some_inj hm
         have hs60 := St.tk1 hs47
         refine ret_of (.tuple #[(.int .u8 3), (.int .i64 0)]) (by kernel_rfl) ⟨_, ⟨rfl, rfl⟩, hs60⟩
        ·
         have h58p : ¬ (r12.1 = true) := ne_true_of_eq_false h58
         replace hm := ite_no hm h58p
         refine W.skip ?_
         refine normal_block ?_
         exact ⟨slots_intro _ (by kernel_rfl), hs47, hm⟩
       ·
        have h57p : ¬ (r12.1 = true) := ne_true_of_eq_false h57
        replace hm := ite_no hm h57p
        refine W.region ?_
        refine zR 2 ?_
        refine zL ⟨b19, 1, none⟩ (.int .u64 r12.2.1) (hs47.cellAt 1 rfl rfl) ?_
        refine ops_val (v := .int .u64 (IntKind.u64.wrap (g_ - r12.2.1))) (v' := .int .u64 ((g_ - r12.2.1) % 18446744073709551616)) (by kernel_rfl) (congrArg (Value.int .u64) (wrap_u64_mod _)) ?_
        refine zE 2 (hK55 _ _ ?_)
        refine W.cond (decide (((g_ - r12.2.1) % 18446744073709551616) > 1)) (by kernel_rfl) (fun h61 => ?_) (fun h61 => ?_)
        ·
         obtain ⟨h61p, hm⟩ := iY hm h61
         refine W.sr fun K62 hK62 => ?_
         refine zE 2 (hK62 _ _ ?_)
         refine W.ret (ret_block (ret_seq ?_))
         obtain rfl := some_inj hm
         have hs63 := St.tk1 hs47
         refine ret_of (.tuple #[(.int .u8 3), (.int .i64 0)]) (by kernel_rfl) ⟨_, ⟨rfl, rfl⟩, hs63⟩
        ·
         obtain ⟨h61p, hm⟩ := iN hm h61
         refine W.skip ?_
         refine normal_block ?_
         exact ⟨slots_intro _ (by kernel_rfl), hs47, hm⟩
    ·
     refine W.region ?_
     refine zR 1 ?_
     refine zL ⟨b19, 0, none⟩ (.bool r12.1) (hs22.cellAt 0 rfl rfl) ?_
     refine zR 1 ?_
     rcases Bool.eq_false_or_eq_true r12.1 with h64 | h64
     ·
      have h64p : r12.1 = true := h64
      replace hm := ite_yes hm h64p
      refine zS 30 h64 ?_
      refine zS 29 h64 ?_
      refine zR 2 ?_
      refine zL ⟨b19, 1, none⟩ (.int .u64 r12.2.1) (hs22.cellAt 0 rfl rfl) ?_
      refine zE 3 ?_
      have hs65 := St.f1 hs22
      exact ⟨(decide (g_ = r12.2.1)), slots_intro _ (by kernel_rfl), hs65, hm⟩
     ·
      have h64p : ¬ (r12.1 = true) := ne_true_of_eq_false h64
      replace hm := ite_no hm h64p
      refine zS 30 h64 ?_
      refine zS 29 h64 ?_
      refine zE 6 ?_
      have hs66 := St.f1 hs22
      exact ⟨false, slots_intro _ (by kernel_rfl), hs66, hm⟩
   ·
    have h44p : ¬ (r12.2.2.2 = 0) := of_decide_eq_false (bnot_true h44)
    replace hm := ite_no hm h44p
    refine W.sr fun K67 hK67 => ?_
    refine zE 3 (hK67 _ _ ?_)
    refine W.ret (ret_block (ret_seq ?_))
    obtain rfl := some_inj hm
    have hs68 := St.f1 hs22
    have hs69 := St.tk1 hs68
    refine ret_of (.tuple #[(.int .u8 0), (.int .i64 r12.2.2.2)]) (by kernel_rfl) ⟨_, ⟨rfl, rfl⟩, hs69⟩
 ·
  have h10p : ¬ (r4 = 0) := of_decide_eq_false (bnot_true h10)
  replace hm := ite_no hm h10p
  refine W.sr fun K70 hK70 => ?_
  refine zE 3 (hK70 _ _ ?_)
  refine W.ret (ret_seq ?_)
  obtain rfl := some_inj hm
  refine ret_of (.tuple #[(.int .u8 0), (.int .i64 r4)]) (by kernel_rfl) ⟨_, ⟨rfl, rfl⟩, hs8⟩

def cclose_M (img : List Int) (l : List (Int × Int)) (i_ : Int) (g_ : Int) : Option (Int × Int × List (Int × Int)) :=
 (cmay_M g_ 1).bind fun r4 =>
if r4 = 0 then ((sget_M img l i_).bind fun r12 =>
if r12.2.2.2 = 0 then (if g_ < r12.2.1 then (some (2, 0, l)) else (if g_ > r12.2.1 then (some (3, 0, l)) else (if r12.1 = true then ((sput_M img l i_ false r12.2.1 r12.2.2.1).bind fun r43 =>
some (0, r43.1, r43.2)) else (some (1, 0, l))))) else (some (0, r12.2.2.2, l))) else (some (0, r4, l))

theorem cclose_walk {img : List Int} {l : List (Int × Int)} {i_ : Int} {g_ : Int} {vb : Nat} {r : Int × Int × List (Int × Int)} (B : Nat) (w : World) (hG2 : 1 < B) (hL : CellsAt (some ⟨1, 0, none⟩) [(.int .i64 1), (.int .i64 2), (.int .i64 2)] w) (hm : cclose_M img l i_ g_ = some r) : Spec Tryd.prog 72 #[(.pointer (some ⟨vb, 0, none⟩)), (.int .i64 i_), (.int .u64 g_)] B w [viewA (ptr vb) img l] (fun v H' => v = (.tuple #[(.int .u8 r.1), (.int .i64 r.2.1)]) ∧ H' = [viewA (ptr vb) img r.2.2]) := by
 refine spec_W Tryd.func72 rfl fun l0 hs => ?_
 unfold cclose_M at hm
 refine W.sr fun K1 hK1 => ?_
 refine zE 2 (hK1 _ _ ?_)
 refine W.seq fun K2 hK2 => ?_
 refine W.sr fun K3 hK3 => ?_
 refine zR 2 ?_
 obtain ⟨r4, h5, hm⟩ := bind_some hm
 refine zC00 hs (cmay_walk (q_ := g_) (t_ := 1) (img := img) (l := l) (hv := (hs.entAt 0 rfl viewA_at)) (hm := h5) B _) fun w6 hs8 => ?_
 refine zE 1 (hK3 _ _ ?_)
 refine W.sr fun K9 hK9 => ?_
 refine zE 2 (hK9 _ _ ?_)
 refine W.cond (!decide (r4 = 0)) (by kernel_rfl) (fun h10 => ?_) (fun h10 => ?_)
 rotate_left
 ·
  have h10p : r4 = 0 := of_decide_eq_true (bnot_false h10)
  replace hm := ite_yes hm h10p
  refine W.skip ?_
  refine hK2 _ _ ?_
  refine W.sr fun K11 hK11 => ?_
  refine zR 2 ?_
  obtain ⟨r12, h13, hm⟩ := bind_some hm
  refine zC00 hs8 (sget_walk (i_ := i_) (img := img) (l := l) (hL := (hs8.oldCellsB hG2 hL)) (hv := (hs8.entAt 0 rfl viewA_at)) (hm := h13) B _) fun w14 hs16 => ?_
  refine zR 3 ?_
  refine zN [(.bool false), (.int .u64 0), (.int .u64 0)] 48 hs16 fun b19 w17 hs18 => ?_
  refine ops_store (off := 0) (cs := [(.bool false), (.int .u64 0), (.int .u64 0)]) (vs := [(.bool r12.1), (.int .u64 r12.2.1), (.int .u64 r12.2.2.1)]) hs18 (by kernel_rfl) (by simp) rfl (fun w20 hs21 => ?_)
  have hs22 : St B w l0 w20 [blk b19 (.cells [(.bool r12.1), (.int .u64 r12.2.1), (.int .u64 r12.2.2.1)].toArray 48 (0, 0)), viewA (ptr vb) img l] := hs21
  refine zE 1 (hK11 _ _ ?_)
  refine W.seq fun K23 hK23 => ?_
  refine W.block ?_
  refine W.sr fun K24 hK24 => ?_
  refine zE 3 (hK24 _ _ ?_)
  refine W.cond (!decide (r12.2.2.2 = 0)) (by kernel_rfl) (fun h25 => ?_) (fun h25 => ?_)
  rotate_left
  ·
   have h25p : r12.2.2.2 = 0 := of_decide_eq_true (bnot_false h25)
   replace hm := ite_yes hm h25p
   refine W.sr fun K26 hK26 => ?_
   refine zR 2 ?_
   refine zL ⟨b19, 1, none⟩ (.int .u64 r12.2.1) (hs22.cellAt 0 rfl rfl) ?_
   refine zE 2 (hK26 _ _ ?_)
   refine W.cond (decide (g_ < r12.2.1)) (by kernel_rfl) (fun h27 => ?_) (fun h27 => ?_)
   ·
    obtain ⟨h27p, hm⟩ := iY hm h27
    refine W.sr fun K28 hK28 => ?_
    refine zE 2 (hK28 _ _ ?_)
    refine W.ret (ret_block (ret_seq ?_))
    obtain rfl := some_inj hm
    have hs29 := St.f1 hs22
    have hs30 := St.tk1 hs29
    refine ret_of (.tuple #[(.int .u8 2), (.int .i64 0)]) (by kernel_rfl) ⟨_, ⟨rfl, rfl⟩, hs30⟩
   ·
    obtain ⟨h27p, hm⟩ := iN hm h27
    refine W.sr fun K31 hK31 => ?_
    refine zR 2 ?_
    refine zL ⟨b19, 1, none⟩ (.int .u64 r12.2.1) (hs22.cellAt 0 rfl rfl) ?_
    refine zE 2 (hK31 _ _ ?_)
    refine W.cond (decide (g_ > r12.2.1)) (by kernel_rfl) (fun h32 => ?_) (fun h32 => ?_)
    ·
     obtain ⟨h32p, hm⟩ := iY hm h32
     refine W.sr fun K33 hK33 => ?_
     refine zE 2 (hK33 _ _ ?_)
     refine W.ret (ret_block (ret_seq ?_))
     obtain rfl := some_inj hm
     have hs34 := St.f1 hs22
     have hs35 := St.tk1 hs34
     refine ret_of (.tuple #[(.int .u8 3), (.int .i64 0)]) (by kernel_rfl) ⟨_, ⟨rfl, rfl⟩, hs35⟩
    ·
     obtain ⟨h32p, hm⟩ := iN hm h32
     refine W.sr fun K36 hK36 => ?_
     refine zR 1 ?_
     refine zL ⟨b19, 0, none⟩ (.bool r12.1) (hs22.cellAt 0 rfl rfl) ?_
     refine zE 2 (hK36 _ _ ?_)
     refine W.cond (!r12.1) (by kernel_rfl) (fun h37 => ?_) (fun h37 => ?_)
     rotate_left
     ·
      have h37p : r12.1 = true := (bnot_false h37)
      replace hm := ite_yes hm h37p
      refine W.skip ?_
      refine normal_block ?_
      refine hK23 _ _ ?_
      refine W.sr fun K38 hK38 => ?_
      refine zR 1 ?_
      refine ops_store (off := 0) (cs := [(.bool r12.1), (.int .u64 r12.2.1), (.int .u64 r12.2.2.1)]) (vs := [(.bool false)]) hs22 (by kernel_rfl) (by simp) rfl (fun w39 hs40 => ?_)
      have hs41 : St B w l0 w39 [blk b19 (.cells [(.bool false), (.int .u64 r12.2.1), (.int .u64 r12.2.2.1)].toArray 48 (0, 0)), viewA (ptr vb) img l] := hs40
      refine zD (hK38 _ _ ?_)
      refine W.sr fun K42 hK42 => ?_
      refine zR 2 ?_
      refine ops_R (runs_loadAgg (ad := ⟨b19, 0, none⟩) (cs := [(.bool false), (.int .u64 r12.2.1), (.int .u64 r12.2.2.1)]) (by kernel_rfl) (cells_sub (hs41.heapAt 0 rfl) rfl)) ?_
      obtain ⟨r43, h44, hm⟩ := bind_some hm
      have hs45 := St.f1 hs41
      refine zC11 hs45 (sput_walk (vb := vb) (i_ := i_) (ho_ := false) (hg_ := r12.2.1) (hk_ := r12.2.2.1) (img := img) (l := l) (hG2 := hG2) (hL := (hs41.oldCellsB hG2 hL)) (hm := h44) B _) fun w46 hs48 => ?_
      refine zE 2 (hK42 _ _ ?_)
      refine W.ret ?_
      obtain rfl := some_inj hm
      have hs49 := St.tk1 hs48
      refine ret_of (.tuple #[(.int .u8 0), (.int .i64 r43.1)]) (by kernel_rfl) ⟨_, ⟨rfl, rfl⟩, hs49⟩
     ·
      have h37p : ¬ (r12.1 = true) := ne_true_of_eq_false (bnot_true h37)
      replace hm := ite_no hm h37p
      refine W.sr fun K50 hK50 => ?_
      refine zE 2 (hK50 _ _ ?_)
      refine W.ret (ret_block (ret_seq ?_))
      obtain rfl := some_inj hm
      have hs51 := St.f1 hs22
      have hs52 := St.tk1 hs51
      refine ret_of (.tuple #[(.int .u8 1), (.int .i64 0)]) (by kernel_rfl) ⟨_, ⟨rfl, rfl⟩, hs52⟩
  ·
   have h25p : ¬ (r12.2.2.2 = 0) := of_decide_eq_false (bnot_true h25)
   replace hm := ite_no hm h25p
   refine W.sr fun K53 hK53 => ?_
   refine zE 3 (hK53 _ _ ?_)
   refine W.ret (ret_block (ret_seq ?_))
   obtain rfl := some_inj hm
   have hs54 := St.f1 hs22
   have hs55 := St.tk1 hs54
   refine ret_of (.tuple #[(.int .u8 0), (.int .i64 r12.2.2.2)]) (by kernel_rfl) ⟨_, ⟨rfl, rfl⟩, hs55⟩
 ·
  have h10p : ¬ (r4 = 0) := of_decide_eq_false (bnot_true h10)
  replace hm := ite_no hm h10p
  refine W.sr fun K56 hK56 => ?_
  refine zE 3 (hK56 _ _ ?_)
  refine W.ret (ret_seq ?_)
  obtain rfl := some_inj hm
  refine ret_of (.tuple #[(.int .u8 0), (.int .i64 r4)]) (by kernel_rfl) ⟨_, ⟨rfl, rfl⟩, hs8⟩

end Go.Proofs.YthimamnblklkbaaDoor

set_option linter.unusedVariables false
set_option maxRecDepth 20000
set_option maxHeartbeats 2000000
namespace Go.Proofs.YthimamnblklkbaaDoor
open Go Go.RowKit
set_option linter.unusedSimpArgs false
set_option linter.unusedVariables false

def rthere_M (img : List Int) (i_ : Int) (k_ : Int) : Option (Int) :=
 if i_ < 0 then (some 1) else (if i_ ≥ 4 then (some 1) else (if k_ < 0 then (some 1) else (if k_ ≥ 4 then (some 1) else (need (-9223372036854775808 ≤ ((sessAt i_) + 64) ∧ ((sessAt i_) + 64) ≤ 9223372036854775807) <|
if (img.length : Int) < ((sessAt i_) + 64) then (some 8) else (some 0)))))

theorem rthere_walk {img : List Int} {l : List (Int × Int)} {i_ : Int} {k_ : Int} {p : Value} {r : Int} (B : Nat) (w : World) (hv : RefAt p img l w) (hm : rthere_M img i_ k_ = some r) : Spec Tryd.prog 108 #[p, (.int .i64 i_), (.int .i64 k_)] B w [] (fun v H' => v = (.int .i64 r) ∧ H' = []) := by
 refine spec_Q Tryd.func108 rfl fun hs => ?_
 unfold rthere_M at hm
 have hv0 := hv
 obtain ⟨x, rfl, hok, hb, hi, ho, hcap⟩ := hv
 have hroom := hok.many
 have hroom2 := hok.size
 refine W.sr fun K1 hK1 => ?_
 refine zE 1 (hK1 _ _ ?_)
 refine W.seq fun K2 hK2 => ?_
 refine W.sr fun K3 hK3 => ?_
 refine zR 3 ?_
 rcases Bool.eq_false_or_eq_true (decide (i_ < 0)) with h4 | h4
 ·
  obtain ⟨h4p, hm⟩ := iY hm h4
  refine zS 9 h4 ?_
  refine zS 8 h4 ?_
  refine zE 11 (hK3 _ _ ?_)
  refine W.cond_true true (by kernel_rfl) rfl ?_
  refine W.sr fun K5 hK5 => ?_
  refine zE 1 (hK5 _ _ ?_)
  refine W.ret (ret_seq ?_)
  obtain rfl := some_inj hm
  refine ret_of (.int .i64 1) (by kernel_rfl) ⟨_, ⟨rfl, rfl⟩, hs⟩
 ·
  obtain ⟨h4p, hm⟩ := iN hm h4
  refine zS 9 h4 ?_
  refine zS 8 h4 ?_
  refine zR 4 ?_
  rcases Bool.eq_false_or_eq_true (decide (i_ ≥ 4)) with h6 | h6
  ·
   obtain ⟨h6p, hm⟩ := iY hm h6
   refine zS 13 h6 ?_
   refine zS 11 h6 ?_
   refine zS 12 h6 ?_
   refine zE 7 (hK3 _ _ ?_)
   refine W.cond_true true (by kernel_rfl) rfl ?_
   refine W.sr fun K7 hK7 => ?_
   refine zE 1 (hK7 _ _ ?_)
   refine W.ret (ret_seq ?_)
   obtain rfl := some_inj hm
   refine ret_of (.int .i64 1) (by kernel_rfl) ⟨_, ⟨rfl, rfl⟩, hs⟩
  ·
   obtain ⟨h6p, hm⟩ := iN hm h6
   refine zS 13 h6 ?_
   refine zS 11 h6 ?_
   refine zS 12 h6 ?_
   refine zR 4 ?_
   rcases Bool.eq_false_or_eq_true (decide (k_ < 0)) with h8 | h8
   ·
    obtain ⟨h8p, hm⟩ := iY hm h8
    refine zS 17 h8 ?_
    refine zS 15 h8 ?_
    refine zS 16 h8 ?_
    refine zE 3 (hK3 _ _ ?_)
    refine W.cond_true true (by kernel_rfl) rfl ?_
    refine W.sr fun K9 hK9 => ?_
    refine zE 1 (hK9 _ _ ?_)
    refine W.ret (ret_seq ?_)
    obtain rfl := some_inj hm
    refine ret_of (.int .i64 1) (by kernel_rfl) ⟨_, ⟨rfl, rfl⟩, hs⟩
   ·
    obtain ⟨h8p, hm⟩ := iN hm h8
    refine zS 17 h8 ?_
    refine zS 15 h8 ?_
    refine zS 16 h8 ?_
    refine zE 3 (hK3 _ _ ?_)
    refine W.cond (decide (k_ ≥ 4)) (by kernel_rfl) (fun h10 => ?_) (fun h10 => ?_)
    ·
     obtain ⟨h10p, hm⟩ := iY hm h10
     refine W.sr fun K11 hK11 => ?_
     refine zE 1 (hK11 _ _ ?_)
     refine W.ret (ret_seq ?_)
     obtain rfl := some_inj hm
     refine ret_of (.int .i64 1) (by kernel_rfl) ⟨_, ⟨rfl, rfl⟩, hs⟩
    ·
     obtain ⟨h10p, hm⟩ := iN hm h10
     refine W.skip ?_
     refine hK2 _ _ ?_
     refine W.seq fun K12 hK12 => ?_
     refine W.seq fun K13 hK13 => ?_
     have hs14 := hs.drew
     refine W.regionD [(0, 0), (1, 1), (2, 2), (4, 4), (8, 8), (0, 0), (32, 32), (64, 64), (144, 144)] (fun w_ => St B w [] w_ []) (by kernel_rfl) hs14 ?_
     refine any_val (v := (.pointer (some ⟨x.b, 0, none⟩))) (v' := (.pointer (some ⟨x.b, 0, none⟩))) 0 (by kernel_rfl) (fun _ => by kernel_rfl) rfl hs14 ?_
     refine any_val (v := (.pointer (some ⟨x.b, 0, none⟩))) (v' := (.pointer (some ⟨x.b, 0, none⟩))) 1 (by kernel_rfl) (fun _ => by kernel_rfl) rfl hs14 ?_
     refine any_val (v := (.pointer (some ⟨x.b, 0, none⟩))) (v' := (.pointer (some ⟨x.b, 0, none⟩))) 2 (by kernel_rfl) (fun _ => by kernel_rfl) rfl hs14 ?_
     refine any_R 3 (by kernel_rfl) (fun _ hS_ => runs_load (ad := ⟨x.b, 0, none⟩) (v := (.slice x.ia img.length x.ic)) (by kernel_rfl) (cell_of_blk (hS_.old hb) rfl)) hs14 ?_
     refine any_val (v := (.int .i64 (img.length : Int))) (v' := (.int .i64 (img.length : Int))) 4 (by kernel_rfl) (fun _ => by kernel_rfl) rfl hs14 ?_
     refine any_val (v := (.int .i64 i_)) (v' := (.int .i64 i_)) 5 (by kernel_rfl) (fun _ => by kernel_rfl) rfl hs14 ?_
     refine any_step 6 (by kernel_rfl) (by kernel_rfl) ?_
     refine zC00 hs14 (rsess_spec (i_ := i_) B _) fun w15 hs17 => ?_
     refine ops_done (by kernel_rfl) ⟨hs17, ?_⟩
     obtain ⟨h18, hm⟩ := need_some hm
     refine any_val (v := .int .i64 (IntKind.i64.wrap ((sessAt i_) + 64))) (v' := .int .i64 ((sessAt i_) + 64)) 7 (by kernel_rfl) (fun _ => by kernel_rfl) (congrArg (Value.int .i64) (wrap_i64 h18.1 h18.2)) hs17 ?_
     refine any_val (v := (.bool (decide ((img.length : Int) < ((sessAt i_) + 64))))) (v' := (.bool (decide ((img.length : Int) < ((sessAt i_) + 64))))) 8 (by kernel_rfl) (fun _ => by kernel_rfl) rfl hs17 ?_
     refine any_done (by kernel_rfl) ?_
     refine hK13 _ _ ?_
     refine W.cond (decide ((img.length : Int) < ((sessAt i_) + 64))) (by kernel_rfl) (fun h19 => ?_) (fun h19 => ?_)
     ·
      obtain ⟨h19p, hm⟩ := iY hm h19
      refine W.sr fun K20 hK20 => ?_
      refine zE 1 (hK20 _ _ ?_)
      refine W.ret (ret_seq ?_)
      obtain rfl := some_inj hm
      refine ret_of (.int .i64 8) (by kernel_rfl) ⟨_, ⟨rfl, rfl⟩, hs17⟩
     ·
      obtain ⟨h19p, hm⟩ := iN hm h19
      refine W.skip ?_
      refine hK12 _ _ ?_
      refine W.sr fun K21 hK21 => ?_
      refine zE 1 (hK21 _ _ ?_)
      refine W.ret ?_
      obtain rfl := some_inj hm
      refine ret_of (.int .i64 0) (by kernel_rfl) ⟨_, ⟨rfl, rfl⟩, hs17⟩

end Go.Proofs.YthimamnblklkbaaDoor

set_option linter.unusedVariables false
set_option maxRecDepth 20000
set_option maxHeartbeats 2000000
namespace Go.Proofs.YthimamnblklkbaaDoor
open Go Go.RowKit
set_option linter.unusedSimpArgs false
set_option linter.unusedVariables false

def rget10_M (img : List Int) (l : List (Int × Int)) (i_ : Int) : Option (Bool × Int × Int × Int) :=
 (rthere_M img i_ 0).bind fun r6 =>
if r6 = 0 then (if (vget img l (sessAt i_)) > 1 then (some (false, 0, 0, 4)) else (need (-9223372036854775808 ≤ ((sessAt i_) + 1) ∧ ((sessAt i_) + 1) ≤ 9223372036854775807) <|
need (-9223372036854775808 ≤ ((sessAt i_) + 2) ∧ ((sessAt i_) + 2) ≤ 9223372036854775807) <|
some (decide ((vget img l (sessAt i_)) = 1), (vget img l ((sessAt i_) + 1)), (vget img l ((sessAt i_) + 2)), 0))) else (some (false, 0, 0, r6))

def rput10_J1 (img : List Int) (l : List (Int × Int)) (i_ : Int) (hg_ : Int) (hk_ : Int) (p15 : Int) : Option (Int × List (Int × Int)) :=
 need (-1 ≤ (sessAt i_) ∧ (sessAt i_) ≤ 1000000) <|
(some (vwrites img (sessAt i_) l 0 ([p15, hg_, hk_]))).bind fun r34 =>
some (r34.1, r34.2)

def rput10_M (img : List Int) (l : List (Int × Int)) (i_ : Int) (ho_ : Bool) (hg_ : Int) (hk_ : Int) : Option (Int × List (Int × Int)) :=
 (rthere_M img i_ 0).bind fun r6 =>
if r6 = 0 then (if ho_ = true then (rput10_J1 img l i_ hg_ hk_ 1) else (rput10_J1 img l i_ hg_ hk_ 0)) else (some (r6, l))

def rload_J1 (img : List Int) (l : List (Int × Int)) (i_ : Int) (k_ : Int) (r34 : Int) (p37 : Bool) : Option (Int × Int × Int × Int × ByteArray × Int) :=
 if p37 = true then (some (0, 0, 0, 0, ByteArray.empty, 4)) else (need (-9223372036854775808 ≤ ((slotAt i_ k_) + 4) ∧ ((slotAt i_ k_) + 4) ≤ 9223372036854775807) <|
need (-9223372036854775808 ≤ (((slotAt i_ k_) + 4) + 0) ∧ (((slotAt i_ k_) + 4) + 0) ≤ 9223372036854775807) <|
need (-9223372036854775808 ≤ ((slotAt i_ k_) + 4) ∧ ((slotAt i_ k_) + 4) ≤ 9223372036854775807) <|
need (-9223372036854775808 ≤ (((slotAt i_ k_) + 4) + 1) ∧ (((slotAt i_ k_) + 4) + 1) ≤ 9223372036854775807) <|
need (-9223372036854775808 ≤ ((slotAt i_ k_) + 4) ∧ ((slotAt i_ k_) + 4) ≤ 9223372036854775807) <|
need (-9223372036854775808 ≤ (((slotAt i_ k_) + 4) + 2) ∧ (((slotAt i_ k_) + 4) + 2) ≤ 9223372036854775807) <|
need (-9223372036854775808 ≤ ((slotAt i_ k_) + 4) ∧ ((slotAt i_ k_) + 4) ≤ 9223372036854775807) <|
need (-9223372036854775808 ≤ (((slotAt i_ k_) + 4) + 3) ∧ (((slotAt i_ k_) + 4) + 3) ≤ 9223372036854775807) <|
need (-9223372036854775808 ≤ ((slotAt i_ k_) + 4) ∧ ((slotAt i_ k_) + 4) ≤ 9223372036854775807) <|
need (-9223372036854775808 ≤ (((slotAt i_ k_) + 4) + 4) ∧ (((slotAt i_ k_) + 4) + 4) ≤ 9223372036854775807) <|
need (-9223372036854775808 ≤ ((slotAt i_ k_) + 4) ∧ ((slotAt i_ k_) + 4) ≤ 9223372036854775807) <|
need (-9223372036854775808 ≤ (((slotAt i_ k_) + 4) + 5) ∧ (((slotAt i_ k_) + 4) + 5) ≤ 9223372036854775807) <|
need (-9223372036854775808 ≤ ((slotAt i_ k_) + 4) ∧ ((slotAt i_ k_) + 4) ≤ 9223372036854775807) <|
need (-9223372036854775808 ≤ (((slotAt i_ k_) + 4) + 6) ∧ (((slotAt i_ k_) + 4) + 6) ≤ 9223372036854775807) <|
need (-9223372036854775808 ≤ ((slotAt i_ k_) + 4) ∧ ((slotAt i_ k_) + 4) ≤ 9223372036854775807) <|
need (-9223372036854775808 ≤ (((slotAt i_ k_) + 4) + 7) ∧ (((slotAt i_ k_) + 4) + 7) ≤ 9223372036854775807) <|
need (0 ≤ (r34.tdiv 256) ∧ (r34.tdiv 256) ≤ 18446744073709551615) <|
need (-9223372036854775808 ≤ (r34.tdiv 256) ∧ (r34.tdiv 256) ≤ 9223372036854775807) <|
(runpack_M ([(vget img l (((slotAt i_ k_) + 4) + 0)), (vget img l (((slotAt i_ k_) + 4) + 1)), (vget img l (((slotAt i_ k_) + 4) + 2)), (vget img l (((slotAt i_ k_) + 4) + 3)), (vget img l (((slotAt i_ k_) + 4) + 4)), (vget img l (((slotAt i_ k_) + 4) + 5)), (vget img l (((slotAt i_ k_) + 4) + 6)), (vget img l (((slotAt i_ k_) + 4) + 7))]) (r34.tdiv 256)).bind fun r190 =>
need (-9223372036854775808 ≤ (r34.tmod 256) ∧ (r34.tmod 256) ≤ 9223372036854775807) <|
need (-9223372036854775808 ≤ ((slotAt i_ k_) + 2) ∧ ((slotAt i_ k_) + 2) ≤ 9223372036854775807) <|
need (-9223372036854775808 ≤ ((slotAt i_ k_) + 3) ∧ ((slotAt i_ k_) + 3) ≤ 9223372036854775807) <|
(some (vget img l (slotAt i_ k_))).bind fun r208 =>
some (r208, r34.tmod 256, (vget img l ((slotAt i_ k_) + 2)), (vget img l ((slotAt i_ k_) + 3)), r190.1, 0))

def rload_M (img : List Int) (l : List (Int × Int)) (i_ : Int) (k_ : Int) : Option (Int × Int × Int × Int × ByteArray × Int) :=
 (rthere_M img i_ k_).bind fun r6 =>
if r6 = 0 then (if (vget img l (slotAt i_ k_)) = 0 then (some (0, 0, 0, 0, ByteArray.empty, 0)) else (need (-9223372036854775808 ≤ ((slotAt i_ k_) + 1) ∧ ((slotAt i_ k_) + 1) ≤ 9223372036854775807) <|
(some (vget img l ((slotAt i_ k_) + 1))).bind fun r34 =>
if r34.tmod 256 > 24 then (rload_J1 img l i_ k_ r34 true) else (need (0 ≤ (r34.tdiv 256) ∧ (r34.tdiv 256) ≤ 18446744073709551615) <|
rload_J1 img l i_ k_ r34 (decide ((r34.tdiv 256) > 64))))) else (some (0, 0, 0, 0, ByteArray.empty, r6))

def rwipe10_B1 (img : List Int) (i_ : Int) (k17 : ((List (Int × Int)) × Int × Int) → Option (Int × List (Int × Int))) (l14 : List (Int × Int)) (p15 : Int) (p16 : Int) : Option (Int × List (Int × Int)) :=
 if p16 < 4 then (if p15 = 0 then (need (-1 ≤ (descAt i_ p16) ∧ (descAt i_ p16) ≤ 1000000) <|
(some (vwrites img (descAt i_ p16) l14 0 ([0, 0]))).bind fun r34 =>
need (-9223372036854775808 ≤ (p16 + 1) ∧ (p16 + 1) ≤ 9223372036854775807) <|
k17 (r34.2, r34.1, (p16 + 1))) else (some (p15, l14))) else (some (p15, l14))

def rwipe10_J1 (img : List Int) (i_ : Int) (l8 : List (Int × Int)) (p9 : Int) : Option (Int × List (Int × Int)) :=
 iter (fun k_ s_ => rwipe10_B1 img i_ k_ s_.1 s_.2.1 s_.2.2) FUEL (l8, p9, 0)

def rwipe10_B0 (img : List Int) (i_ : Int) (k49 : ((List (Int × Int)) × Int × Int) → Option (Int × List (Int × Int))) (l46 : List (Int × Int)) (p47 : Int) (p48 : Int) : Option (Int × List (Int × Int)) :=
 if p48 < 4 then (if p47 = 0 then ((some ((vwrite img l46 (slotAt i_ p48) 0).1)).bind fun r64 =>
need (-9223372036854775808 ≤ (p48 + 1) ∧ (p48 + 1) ≤ 9223372036854775807) <|
k49 ((vwrite img l46 (slotAt i_ p48) 0).2, r64, (p48 + 1))) else (rwipe10_J1 img i_ l46 p47)) else (rwipe10_J1 img i_ l46 p47)

def rwipe10_M (img : List Int) (l : List (Int × Int)) (i_ : Int) : Option (Int × List (Int × Int)) :=
 (rthere_M img i_ 0).bind fun r3 =>
iter (fun k_ s_ => rwipe10_B0 img i_ k_ s_.1 s_.2.1 s_.2.2) FUEL (l, r3, 0)

end Go.Proofs.YthimamnblklkbaaDoor

set_option linter.unusedVariables false
set_option maxRecDepth 20000
set_option maxHeartbeats 2000000
namespace Go.Proofs.YthimamnblklkbaaDoor
open Go Go.RowKit
set_option linter.unusedSimpArgs false
set_option linter.unusedVariables false

def ropened_J1 (r6 : Bool × Int × Int × Int) (p17 : Int) : Option (Bool × Int × Int × Int) :=
 some (r6.1, r6.2.1, r6.2.2.1, p17)

def ropened_M (img : List Int) (l : List (Int × Int)) (i_ : Int) (g_ : Int) : Option (Bool × Int × Int × Int) :=
 (rget10_M img l i_).bind fun r6 =>
if r6.2.2.2 = 0 then (if r6.1 = true then (if r6.2.1 = g_ then (ropened_J1 r6 r6.2.2.2) else (ropened_J1 r6 22)) else (ropened_J1 r6 22)) else (ropened_J1 r6 r6.2.2.2)

end Go.Proofs.YthimamnblklkbaaDoor

set_option linter.unusedVariables false
set_option maxRecDepth 20000
set_option maxHeartbeats 2000000
namespace Go.Proofs.YthimamnblklkbaaDoor
open Go Go.RowKit
set_option linter.unusedSimpArgs false
set_option linter.unusedVariables false

def rof_J1 (img : List Int) (l : List (Int × Int)) (i_ : Int) (g_ : Int) (q_ : Int) (p13 : Bool) : Option (Int × Int × Int × Int × ByteArray × Int) :=
 if p13 = true then (some (0, 0, 0, 0, ByteArray.empty, 1)) else ((ropened_M img l i_ g_).bind fun r24 =>
if r24.2.2.2 = 0 then (if q_ ≤ r24.2.2.1 then (some (2, 0, 0, 0, ByteArray.empty, 0)) else (if ((q_ - r24.2.2.1) % 18446744073709551616) > 4 then (some (3, 0, 0, 0, ByteArray.empty, 0)) else (need (-9223372036854775808 ≤ (q_.tmod 4) ∧ (q_.tmod 4) ≤ 9223372036854775807) <|
(rload_M img l i_ (q_.tmod 4)).bind fun r66 =>
if r66.2.2.2.2.2 = 0 then (if r66.1 = q_ then (some (1, r66.2.1, r66.2.2.1, r66.2.2.2.1, r66.2.2.2.2.1, 0)) else (some (0, 0, 0, 0, ByteArray.empty, 0))) else (some (0, 0, 0, 0, ByteArray.empty, r66.2.2.2.2.2))))) else (some (0, 0, 0, 0, ByteArray.empty, r24.2.2.2)))

def rof_M (img : List Int) (l : List (Int × Int)) (i_ : Int) (g_ : Int) (q_ : Int) : Option (Int × Int × Int × Int × ByteArray × Int) :=
 if q_ < 1 then (rof_J1 img l i_ g_ q_ true) else (rof_J1 img l i_ g_ q_ (decide (q_ > 1099511627776)))

def rack_J1 (img : List Int) (l : List (Int × Int)) (i_ : Int) (r7 : Bool × Int × Int × Int) (p21 : Int) : Option (Int × Int × List (Int × Int)) :=
 (rput10_M img l i_ r7.1 r7.2.1 p21).bind fun r25 =>
if r25.1 = 0 then (some (p21, 0, r25.2)) else (some (0, r25.1, r25.2))

def rack_B0 (img : List Int) (l : List (Int × Int)) (i_ : Int) (q_ : Int) (r7 : Bool × Int × Int × Int) (k38 : Int → Option (Int × Int × List (Int × Int))) (p37 : Int) : Option (Int × Int × List (Int × Int)) :=
 if p37 < q_ then (need (-9223372036854775808 ≤ (((p37 + 1) % 18446744073709551616).tmod 4) ∧ (((p37 + 1) % 18446744073709551616).tmod 4) ≤ 9223372036854775807) <|
(rload_M img l i_ (((p37 + 1) % 18446744073709551616).tmod 4)).bind fun r48 =>
if r48.2.2.2.2.2 = 0 then (if r48.1 = ((p37 + 1) % 18446744073709551616) then (k38 ((p37 + 1) % 18446744073709551616)) else (rack_J1 img l i_ r7 p37)) else (some (0, r48.2.2.2.2.2, l))) else (rack_J1 img l i_ r7 p37)

def rack_M (img : List Int) (l : List (Int × Int)) (i_ : Int) (g_ : Int) (q_ : Int) : Option (Int × Int × List (Int × Int)) :=
 if q_ > 1099511627776 then (some (0, 1, l)) else ((ropened_M img l i_ g_).bind fun r7 =>
if r7.2.2.2 = 0 then (iter (fun k_ s_ => rack_B0 img l i_ q_ r7 k_ s_) FUEL r7.2.2.1) else (some (0, r7.2.2.2, l)))

def ropen_J1 (img : List Int) (l : List (Int × Int)) (i_ : Int) (g_ : Int) (r9 : Bool × Int × Int × Int) : Option (Int × Int × List (Int × Int)) :=
 if g_ ≤ r9.2.1 then (some (2, 0, l)) else (if r9.1 = true then (some (3, 0, l)) else (if ((g_ - r9.2.1) % 18446744073709551616) = 1 then ((rput10_M img l i_ true g_ 0).bind fun r37 =>
if r37.1 = 0 then ((rwipe10_M img r37.2 i_).bind fun r46 =>
some (0, r46.1, r46.2)) else (some (0, r37.1, r37.2))) else (some (3, 0, l))))

def ropen_M (img : List Int) (l : List (Int × Int)) (i_ : Int) (g_ : Int) : Option (Int × Int × List (Int × Int)) :=
 if g_ < 1 then (some (0, 1, l)) else (if g_ > 1099511627776 then (some (0, 1, l)) else ((rget10_M img l i_).bind fun r9 =>
if r9.2.2.2 = 0 then (if r9.1 = true then (if g_ = r9.2.1 then (some (1, 0, l)) else (ropen_J1 img l i_ g_ r9)) else (ropen_J1 img l i_ g_ r9)) else (some (0, r9.2.2.2, l))))

end Go.Proofs.YthimamnblklkbaaDoor

namespace Go.Proofs.YthimamnblklkbaaDoor
open Go Go.RowKit

theorem vlook_vset {l : List (Int × Int)} {k v k' : Int} : vlook (vset l k v) k' = if k' = k then some v else vlook l k' := by
  cases hl : vlook l k with
  | none =>
    rw [vset_none hl]
    unfold vlook
    rw [List.find?_append]
    by_cases h : k' = k
    · subst h
      have h0 : l.find? (fun p => p.1 == k') = none := by
        unfold vlook at hl
        simpa using hl
      simp [h0]
    · have : ((k == k') : Bool) = false := by simpa using fun e => h e.symm
      simp [this, h]
  | some x =>
    have e : vset l k v = l.map fun p => if p.1 = k then (k, v) else p := by unfold vset; rw [hl]
    rw [e]
    clear e
    unfold vlook at hl ⊢
    induction l with
    | nil => simp at hl
    | cons p l ih =>
      by_cases hp : p.1 = k
      · by_cases h : k' = k
        · subst h; simp [hp]
        · have h1 : ((k == k') : Bool) = false := by simpa using fun e => h e.symm
          simp only [List.map_cons, hp, if_true, List.find?_cons, h1, h, if_false]
          have : ∀ m : List (Int × Int), (m.map fun p => if p.1 = k then (k, v) else p).find? (fun p => p.1 == k') = m.find? (fun p => p.1 == k') := by
            intro m
            induction m with
            | nil => rfl
            | cons q m ihm =>
              by_cases hq : q.1 = k
              · simp only [List.map_cons, hq, if_true, List.find?_cons, h1, ihm]
              · simp only [List.map_cons, hq, if_false, List.find?_cons, ihm]
          rw [this]
          try rfl
      · have hp' : ((p.1 == k) : Bool) = false := by simpa using hp
        simp only [List.find?_cons, hp'] at hl
        simp only [List.map_cons, hp, if_false, List.find?_cons]
        cases hq : (p.1 == k') with
        | true =>
          have : ¬ k' = k := by
            intro e; subst e; simp at hq; exact hp hq
          simp [this]
        | false =>
          have := ih (by simpa using hl)
          simpa using this

theorem vflat_get0 : ∀ {l : List (Int × Int)} {img : List Int}, Keys l → inside img.length l → ∀ {k : Nat}, k < img.length → (vflat img l).getD k 0 = (vlook l (k : Int)).getD (img.getD k 0)
  | [], img, _, _, k, hk => by simp [vflat, vlook]
  | p :: l, img, hn, hi, k, hk => by
    have hn' : Keys l := by simp only [Keys, List.map_cons, List.nodup_cons] at hn; exact hn.2
    have hp := hi p (List.mem_cons_self ..)
    have h1 := vflat_get0 (l := l) (img := img.set p.1.toNat p.2) hn' (by rw [List.length_set]; exact fun q hq => hi q (List.mem_cons_of_mem _ hq)) (k := k) (by simpa using hk)
    have e : vflat img (p :: l) = vflat (img.set p.1.toNat p.2) l := rfl
    rw [e, h1]
    by_cases h : p.1 = (k : Int)
    · have hnone : vlook l (k : Int) = none := by
        unfold vlook
        rw [Option.map_eq_none_iff, List.find?_eq_none]
        intro q hq hk'
        simp only [Keys, List.map_cons, List.nodup_cons, List.mem_map, not_exists, not_and] at hn
        exact hn.1 q hq (by rw [h]; simpa using hk')
      rw [hnone]
      have e2 : p.1.toNat = k := by omega
      rw [e2]
      simp [vlook, h, hk]
    · have e2 : ¬ p.1.toNat = k := by omega
      have e3 : ((p.1 == (k : Int)) : Bool) = false := by simpa using h
      have e4 : vlook (p :: l) (k : Int) = vlook l (k : Int) := by simp only [vlook, List.find?_cons, e3]
      rw [e4]
      congr 1
      simp [List.getD, List.getElem?_set_ne e2]

theorem vflat_get {l : List (Int × Int)} {img : List Int} (h : VOk img l) {k : Nat} (hk : k < img.length) : (vflat img l).getD k 0 = vget img l (k : Int) := by
  rw [vflat_get0 h.keys h.inside hk]
  simp only [vget]
  rw [if_pos (by omega)]
  rfl
theorem vget_nil {img : List Int} {k : Nat} (hk : k < img.length) : vget img [] (k : Int) = img.getD k 0 := by
  simp only [vget]
  rw [if_pos (by omega)]
  rfl
theorem vput_len (img : List Int) (l : List (Int × Int)) (a x : Int) : (vput img l a x).2.length ≤ l.length + 1 := by
  unfold vput
  split
  · cases hl : vlook l a with
    | some y => simp only; rw [vset_length_some (by rw [hl]; rfl)]; omega
    | none =>
      simp only
      split
      · simp
      · rw [vset_none hl]; simp
  · simp
theorem vput_in {img : List Int} {l : List (Int × Int)} {a x : Int} (h : 0 ≤ a ∧ a < img.length) (hm : l.length < 96) : vput img l a x = (0, vset l a x) := by
  simp only [vput]
  rw [if_pos h]
  cases vlook l a with
  | some y => rfl
  | none => exact if_neg (by omega)
theorem vget_vset {img : List Int} {l : List (Int × Int)} {a x k : Int} (h : 0 ≤ a ∧ a < img.length) : vget img (vset l a x) k = if k = a then x else vget img l k := by
  simp only [vget, vlook_vset]
  by_cases hk : k = a
  · subst hk; simp [h]
  · simp [hk]
end Go.Proofs.YthimamnblklkbaaDoor

namespace Go.Proofs.YthimamnblklkbaaDoor
open Go Go.RowKit
set_option linter.unusedVariables false

def U64 (v : Int) : Prop := 0 ≤ v ∧ v < 18446744073709551616
theorem u64_zero : U64 0 := by unfold U64; omega
def VR (img : List Int) (l : List (Int × Int)) : Prop := ∀ k, U64 (vget img l k)
theorem VR.nil {img : List Int} (h : ∀ x ∈ img, U64 x) : VR img [] := by
  intro k
  unfold vget
  split
  · simp only [show vlook [] k = none from rfl, Option.getD_none]
    rw [List.getD_eq_getElem?_getD]
    rcases Nat.lt_or_ge k.toNat img.length with hk | hk
    · rw [List.getElem?_eq_getElem hk]; exact h _ (List.getElem_mem hk)
    · rw [List.getElem?_eq_none hk]; exact u64_zero
  · exact u64_zero
theorem VR.put {img : List Int} {l : List (Int × Int)} {a x : Int} (h : VR img l) (ha : 0 ≤ a ∧ a < img.length) (hx : U64 x) : VR img (vset l a x) := by
  intro k
  rw [vget_vset ha]
  split
  · exact hx
  · exact h k
theorem vget_out {img : List Int} {l : List (Int × Int)} {k : Int} (h : ¬ (0 ≤ k ∧ k < img.length)) : vget img l k = 0 := by
  unfold vget; rw [if_neg h]
theorem vget_flat {img : List Int} {l : List (Int × Int)} (hok : VOk img l) (k : Int) : vget (vflat img l) [] k = vget img l k := by
  have hl := vflat_length img l
  by_cases h : 0 ≤ k ∧ k < img.length
  · obtain ⟨n, rfl⟩ := Int.eq_ofNat_of_zero_le h.1
    rw [vget_nil (by omega), vflat_get hok (by omega)]
  · rw [vget_out h, vget_out (by rw [hl]; exact h)]
theorem u64_flat {img : List Int} {l : List (Int × Int)} (hok : VOk img l) (hv : VR img l) : ∀ x ∈ vflat img l, U64 x := by
  intro x hx
  obtain ⟨k, hk, rfl⟩ := List.getElem_of_mem hx
  have hl := vflat_length img l
  have e := vflat_get hok (k := k) (by omega)
  rw [List.getD_eq_getElem?_getD, List.getElem?_eq_getElem hk] at e
  simp only [Option.getD_some] at e
  rw [e]
  exact hv _
theorem fmtW_u64 {gw gi gb : Int} : ∀ x ∈ fmtW gw gi gb, U64 x := by
  intro x hx
  unfold fmtW at hx
  split at hx
  · rename_i hm
    have hm_ := may_out hm
    unfold U64
    rcases List.mem_or_eq_of_mem_set hx with hx | rfl
    · rcases List.mem_or_eq_of_mem_set hx with hx | rfl
      · rcases List.mem_or_eq_of_mem_set hx with hx | rfl
        · rcases List.mem_or_eq_of_mem_set hx with hx | rfl
          · rcases List.mem_or_eq_of_mem_set hx with hx | rfl
            · rcases List.mem_or_eq_of_mem_set hx with hx | rfl
              · rcases List.mem_or_eq_of_mem_set hx with hx | rfl
                · rcases List.mem_or_eq_of_mem_set hx with hx | rfl
                  · have := List.eq_of_mem_replicate hx
                    omega
                  · omega
                · omega
              · omega
            · omega
          · omega
        · omega
      · omega
    · omega
  · simp at hx
end Go.Proofs.YthimamnblklkbaaDoor
