/- Texts, one behind the other: A6q, A6r, Zr, F6i, F6j, A6h, A6k, A6i, A6j, A6l, A3a, A3b, A3c, A3d, A3e, Zs, A6s, F6r, A6t. -/
import Derived.Test.YtmmclabkkigiaaaGreatQPP3
set_option linter.unusedVariables false
set_option linter.unusedSimpArgs false
set_option maxRecDepth 20000
set_option maxHeartbeats 1000000
namespace Go.Proofs.YtmmclabkkigiaaaGreat
open Go Go.RowKit
def rsum02_B0 (ws : List Int) (k7 : (Int × Int) → Option (Int)) (p5 : Int) (p6 : Int) : Option (Int) :=
 if p6 < (ws.length : Int) then (need (0 ≤ p6 ∧ p6 < (ws.length : Int)) <|
(some (((bits .xor .u64 p5 (ws.getD p6.toNat 0)) * 1099511628211) % 18446744073709551616)).bind fun r17 =>
need (-9223372036854775808 ≤ (p6 + 1) ∧ (p6 + 1) ≤ 9223372036854775807) <|
k7 (r17, (p6 + 1))) else (some p5)
def rsum02_M (ws : List Int) : Option (Int) :=
 iter (fun k_ s_ => rsum02_B0 ws k_ s_.1 s_.2) FUEL (14695981039346656037, 0)
theorem rsum02_walk {ws : List Int} {wa : Option Addr} {wc : Nat} {r : Int} (B : Nat) (w : World) (hw : CellsAt wa (kU64.cells ws) w) (hm : rsum02_M ws = some r) : Spec Tryz.prog 84 #[(.slice wa ws.length wc)] B w [] (fun v H' => v = .int .u64 r ∧ H' = []) := by
 refine spec_Q Tryz.func84 rfl fun hs => ?_
 unfold rsum02_M at hm
 refine W.sr fun K1 hK1 => ?_
 refine zE 1 (hK1 _ _ ?_)
 refine W.sr fun K2 hK2 => ?_
 refine zE 1 (hK2 _ _ ?_)
 refine W.seq fun K3 hK3 => ?_
 refine W.sr fun K4 hK4 => ?_
 refine zE 1 (hK4 _ _ ?_)
 refine W.block ?_
 refine W.loop_iter (G := Int × Int) (σ := Int × Int) (fun | (p5, p6) => (p5, p6)) (fun | (p5, p6), s_, w_ => (∃ us, s_ = slots 19 [(0, (.slice wa ws.length wc)), (3, (zu p5)), (4, (zi p6))] us) ∧ St B w [] w_ []) (14695981039346656037, 0) ⟨slots_intro _ (by kernel_rfl), hs⟩ hm ?_
 rintro k7 ih8 ⟨p5, p6⟩ _ w9 ⟨⟨us, rfl⟩, hs10⟩ hm
 replace hm : rsum02_B0 ws k7 p5 p6 = some r := hm
 unfold rsum02_B0 at hm
 refine W.seq fun K11 hK11 => ?_
 refine W.sr fun K12 hK12 => ?_
 refine zE 4 (hK12 _ _ ?_)
 refine W.cond (decide (p6 < (ws.length : Int))) (by kernel_rfl) (fun h13 => ?_) (fun h13 => ?_)
 ·
  obtain ⟨h13p, hm⟩ := iY hm h13
  refine W.skip ?_
  refine hK11 _ _ ?_
  refine W.seq fun K14 hK14 => ?_
  refine W.block ?_
  refine W.region ?_
  refine zR 3 ?_
  obtain ⟨h16, hm⟩ := need_some hm
  have hk15 := lt_toNat h16
  refine ops_R (runs_index (a := wa) (n := ws.length) (z := p6) (size := 1) p6.toNat (nat_of h16.1) hk15 (kU64.addr (hs10.oldCells hw) hk15) (by kernel_rfl)) ?_
  refine zL ((adr wa (p6.toNat * 1)).add 0) (zu (ws.getD p6.toNat 0)) (kU64.at (hs10.oldCells hw) hk15 0 0 rfl) ?_
  refine zR 1 ?_
  refine ops_val (v := .int .u64 (IntKind.u64.wrap ((bits .xor .u64 p5 (ws.getD p6.toNat 0)) * 1099511628211))) (v' := .int .u64 (((bits .xor .u64 p5 (ws.getD p6.toNat 0)) * 1099511628211) % 18446744073709551616)) (by kernel_rfl) (congrArg (Value.int .u64) (wrap_u64_mod _)) ?_
  refine zR 1 ?_
  obtain ⟨r17, h18, hm⟩ := bind_some hm
  replace h18 := some_inj h18
  refine ops_set 3 (v := .int .u64 r17) (Eq.trans (by kernel_rfl) (congrArg (Value.int .u64) h18)) ?_
  refine zD ?_
  refine normal_block ?_
  refine hK14 _ _ ?_
  refine W.region ?_
  refine zR 1 ?_
  obtain ⟨h19, hm⟩ := need_some hm
  refine zI _ (wrap_i64 h19.1 h19.2) ?_
  refine zE 1 ?_
  refine loopAt_next ?_
  exact ih8 (r17, (p6 + 1)) _ _ ⟨slots_intro _ (by kernel_rfl), hs10⟩ hm
 obtain ⟨h13p, hm⟩ := iN hm h13
 refine W.exit (exit_seq (exit_seq (exit_here ?_)))
 refine hK3 _ _ ?_
 refine W.sr fun K20 hK20 => ?_
 refine zE 2 (hK20 _ _ ?_)
 refine W.ret ?_
 obtain rfl := some_inj hm
 refine ret_of (zu p5) (by kernel_rfl) ⟨_, ⟨rfl, rfl⟩, hs10⟩
end Go.Proofs.YtmmclabkkigiaaaGreat

set_option maxRecDepth 20000
set_option maxHeartbeats 2000000
namespace Go.Proofs.YtmmclabkkigiaaaGreat
open Go Go.RowKit
def rbegin15_M (tx_ : ByteArray) : Option (Int) :=
 (rmay15_M tx_).bind fun r4 =>
if r4 = true then ((rpack_M tx_).bind fun r13 =>
(rsum02_M r13).bind fun r18 =>
need (-9223372036854775808 ≤ (r18.tmod 12) ∧ (r18.tmod 12) ≤ 9223372036854775807) <|
some (r18.tmod 12)) else (some 0)
theorem rbegin15_walk {tx_ : ByteArray}  {r : Int} (B : Nat) (w : World) (hm : rbegin15_M tx_ = some r) : Spec Tryz.prog 51 #[(.string tx_)] B w [] (fun v H' => v = .int .i64 r ∧ H' = []) := by
 refine spec_Q Tryz.func51 rfl fun hs => ?_
 unfold rbegin15_M at hm
 refine W.sr fun K1 hK1 => ?_
 refine zE 1 (hK1 _ _ ?_)
 refine W.seq fun K2 hK2 => ?_
 refine W.sr fun K3 hK3 => ?_
 refine zR 1 ?_
 obtain ⟨r4, h5, hm⟩ := bind_some hm
 refine zC00 hs (rmay15_walk (tx_ := tx_) (hm := h5) B _) fun w6 hs8 => ?_
 refine zE 1 (hK3 _ _ ?_)
 refine W.cond (!r4) (by kernel_rfl) (fun h9 => ?_) (fun h9 => ?_)
 rotate_left
 ·
  have h9p : r4 = true := (bnot_false h9)
  replace hm := ite_yes hm h9p
  refine W.skip ?_
  refine hK2 _ _ ?_
  refine W.sr fun K10 hK10 => ?_
  refine zR 1 ?_
  obtain ⟨r13, h14, hm⟩ := bind_some hm
  refine ops_call0 hs8 (by kernel_rfl) (rpack_walk (hm := h14) B _) ?_
  rintro _ _ w15 ⟨a11, c12, rfl, rfl⟩ hs16
  have hs17 := St.ap1 hs16
  obtain ⟨r18, h19, hm⟩ := bind_some hm
  refine zC00 hs17 (rsum02_walk (ws := r13) (wc := c12) (hw := (St.kcells kU64 hs17 0 rfl)) (hm := h19) B _) fun w20 hs22 => ?_
  refine zR 1 ?_
  obtain ⟨h23, hm⟩ := need_some hm
  refine zI _ (wrap_i64 h23.1 h23.2) ?_
  refine zE 1 (hK10 _ _ ?_)
  refine W.ret ?_
  obtain rfl := some_inj hm
  have hs24 := St.tk0 hs22
  refine ret_of (zi (r18.tmod 12)) (by kernel_rfl) ⟨_, ⟨rfl, rfl⟩, hs24⟩
 have h9p : ¬ (r4 = true) := ne_true_of_eq_false (bnot_true h9)
 replace hm := ite_no hm h9p
 refine W.sr fun K25 hK25 => ?_
 refine zE 1 (hK25 _ _ ?_)
 refine W.ret (ret_seq ?_)
 obtain rfl := some_inj hm
 refine ret_of (zi 0) (by kernel_rfl) ⟨_, ⟨rfl, rfl⟩, hs8⟩
end Go.Proofs.YtmmclabkkigiaaaGreat

namespace Go.Proofs.YtmmclabkkigiaaaGreat
open Go Go.RowKit
theorem getD_setI (l : List Int) (i j : Nat) (a : Int) : (l.set i a).getD j 0 = if i = j ∧ j < l.length then a else l.getD j 0 := by
  simp only [List.getD_eq_getElem?_getD, List.getElem?_set]
  by_cases h : i = j
  · subst h
    by_cases h2 : i < l.length
    · simp [h2]
    · simp [h2]
  · simp [h]
def packN (xs : List Int) : List Int := (List.range ((xs.length + 7) / 8)).map fun (q : Nat) => valB ((xs.drop (8 * q)).take 8)
theorem packN_str (s : ByteArray) : packN (strNums s) = packF s := by unfold packN packF; rw [strNums_len]
theorem packN_len (xs : List Int) : (packN xs).length = (xs.length + 7) / 8 := by unfold packN; simp
theorem packN_get (xs : List Int) {q : Nat} (h : q < (xs.length + 7) / 8) : (packN xs).getD q 0 = valB ((xs.drop (8 * q)).take 8) := by
  unfold packN
  simp [List.getD, h]
def opened8 (xs : List Int) : List Int := if xs.length % 8 = 0 then packN xs ++ [0] else packN xs
theorem opened8_len (xs : List Int) : (opened8 xs).length = (xs.length + 8) / 8 := by
  unfold opened8
  split
  · rw [List.length_append, packN_len]; simp only [List.length_cons, List.length_nil]; omega
  · rw [packN_len]; omega
theorem opened8_last (xs : List Int) : (opened8 xs).getD (xs.length / 8) 0 = valB (xs.drop (8 * (xs.length / 8))) := by
  unfold opened8
  split
  · rename_i h
    rw [List.drop_of_length_le (by omega), List.getD_eq_getElem?_getD, List.getElem?_append_right (by rw [packN_len]; omega), packN_len, show xs.length / 8 - (xs.length + 7) / 8 = 0 by omega]
    rfl
  · rw [packN_get _ (by omega), List.take_of_length_le (by rw [List.length_drop]; omega)]
theorem opened8_get (xs : List Int) {q : Nat} (h : q < xs.length / 8) : (opened8 xs).getD q 0 = valB ((xs.drop (8 * q)).take 8) := by
  unfold opened8
  split
  · rw [List.getD_eq_getElem?_getD, List.getElem?_append_left (by rw [packN_len]; omega), ← List.getD_eq_getElem?_getD, packN_get _ (by omega)]
  · rw [packN_get _ (by omega)]
theorem packN_snoc (xs : List Int) (b : Int) : packN (xs ++ [b]) = (opened8 xs).set (xs.length / 8) ((opened8 xs).getD (xs.length / 8) 0 + b * 256 ^ (xs.length % 8)) := by
  have hl := opened8_len xs
  refine eq_of_getD 0 (by rw [List.length_set, packN_len, hl, List.length_append]; rfl) fun j hj => ?_
  rw [packN_len, List.length_append, List.length_cons, List.length_nil] at hj
  rw [packN_get _ (by rw [List.length_append, List.length_cons, List.length_nil]; exact hj), getD_setI]
  by_cases h : xs.length / 8 = j
  · rw [if_pos ⟨h, by omega⟩, opened8_last, h, List.drop_append_of_le_length (by omega), List.take_of_length_le (by simp only [List.length_append, List.length_drop, List.length_cons, List.length_nil]; omega), valB_snoc, List.length_drop,
      show xs.length - 8 * j = xs.length % 8 by omega]
  · rw [if_neg (by omega), opened8_get _ (by omega), List.drop_append_of_le_length (by omega), List.take_append_of_le_length (by rw [List.length_drop]; omega)]
theorem rpack_eq {s : ByteArray} (hs : s.size ≤ 1000000) : rpack_M s = some (packF s) := by
  have hlen := strNums_len s
  unfold rpack_M
  refine iter_run (fun t => t.2.1 = t.1.length ∧ 0 ≤ t.2.2 ∧ t.2.2 ≤ (s.size : Int) ∧ t.1 = packN ((strNums s).take t.2.2.toNat)) (fun t => ((s.size : Int) - t.2.2).toNat) ?_ _ _ ⟨rfl, by simp, by simp, by simp [packN]⟩ (fuel_lt (by simp only; omega))
  rintro k ⟨q, n, p⟩ ⟨h1, h2, h3, h4⟩ ih
  simp only at h1 h2 h3 h4 ih
  subst h1 h4
  unfold rpack_B0
  simp only
  have htl : ((strNums s).take p.toNat).length = p.toNat := by rw [List.length_take]; omega
  by_cases hp : p < (s.size : Int)
  · rw [if_pos hp]
    have J : rpack_J2 s k p (opened8 ((strNums s).take p.toNat)) (opened8 ((strNums s).take p.toNat)).length = some (packF s) := by
      unfold rpack_J2
      have hb := sbyte_range s p
      have hol := opened8_len ((strNums s).take p.toNat)
      rw [htl] at hol
      rw [quo8 h2, rem8 h2]
      iterate 12 refine need_of (by omega) ?_
      refine ih _ ⟨by simp only [List.length_set], by simp only; omega, by simp only; omega, ?_⟩ (by simp only; omega)
      simp only
      have hps := packN_snoc ((strNums s).take p.toNat) ((strNums s).getD p.toNat 0)
      have hlast := opened8_last ((strNums s).take p.toNat)
      rw [← take_snoc 0 (by omega), htl] at hps
      rw [htl] at hlast
      rw [show (p + 1).toNat = p.toNat + 1 by omega, hps, show (p / 8).toNat = p.toNat / 8 by omega, show (8 * (p % 8)) = 8 * ((p.toNat % 8 : Nat) : Int) by omega, sbyte_nums s ⟨h2, hp⟩,
        shl_bytes ((byt_str s).getD _) (by omega)]
      congr 1
      have hby : Byt (((strNums s).take p.toNat).drop (8 * (p.toNat / 8)) ++ [(strNums s).getD p.toNat 0]) := by
        intro x hx
        rcases List.mem_append.1 hx with h | h
        · exact (((byt_str s).take _).drop _) x h
        · simp only [List.mem_singleton] at h
          subst h
          exact (byt_str s).getD _
      have hr := valB_u64 hby (by simp only [List.length_append, List.length_drop, htl, List.length_cons, List.length_nil]; omega)
      rw [valB_snoc, List.length_drop, htl, show p.toNat - 8 * (p.toNat / 8) = p.toNat % 8 by omega] at hr
      rw [hlast]
      unfold U64 at hr
      omega
    by_cases h0 : p.tmod 8 = 0
    · rw [if_pos h0]
      rw [rem8 h2] at h0
      have e : opened8 ((strNums s).take p.toNat) = packN ((strNums s).take p.toNat) ++ [0] := by unfold opened8; rw [if_pos (by omega)]
      rw [e] at J
      have := packN_len ((strNums s).take p.toNat)
      exact need_of (by omega) (need_of (by trivial) J)
    · rw [if_neg h0]
      rw [rem8 h2] at h0
      have e : opened8 ((strNums s).take p.toNat) = packN ((strNums s).take p.toNat) := by unfold opened8; rw [if_neg (by omega)]
      rw [e] at J
      exact J
  · rw [if_neg hp, List.take_of_length_le (by omega), packN_str]
    exact need_of (by trivial) rfl
theorem runpack_eq {ws : List Int} {n : Int} (h0 : 0 ≤ n) (hn : n ≤ 8 * (ws.length : Int)) (hl : ws.length ≤ 1000) : runpack_M ws n = some (strOfNums (bytesF ws n.toNat), 0) := by
  unfold runpack_M
  rw [if_neg (by omega), need, if_pos (by omega), if_neg (by omega)]
  refine iter_run (fun s => 0 ≤ s.2 ∧ s.2 ≤ n ∧ s.1 = bytesF ws s.2.toNat) (fun s => (n - s.2).toNat) ?_ _ _ ⟨by simp, by simp; omega, rfl⟩ (fuel_lt (by simp only; omega))
  rintro k ⟨q, p⟩ ⟨h1, h2, h3⟩ ih
  simp only at h1 h2 h3 ih
  subst h3
  unfold runpack_B0
  simp only
  by_cases h : p < n
  · rw [if_pos h, quo8 h1, rem8 h1, bytesF_len]
    refine need_of (by omega) (need_of (by omega) (need_of (by omega) (need_of (by omega) (need_of (by omega) (need_of (by omega) (need_of (by omega) (ih _ ⟨by simp only; omega, by simp only; omega, ?_⟩ (by simp only; omega))))))))
    simp only
    rw [show (p + 1).toNat = p.toNat + 1 by omega, bytesF_succ, show (p / 8).toNat = p.toNat / 8 by omega, show ((p.toNat % 8 : Nat) : Int) = p % 8 by omega]
  · rw [if_neg h, show p = n by omega]
theorem rmay15_eq (s : ByteArray) : rmay15_M s = some (mayB s) := rmay15_eqP s
def sumL : Int → List Int → Int
  | s, [] => s
  | s, x :: xs => sumL ((bits .xor .u64 s x * 1099511628211) % 18446744073709551616) xs
theorem sumof_eq {ws : List Int} (h : ws.length ≤ 1000) : sumof_M ws = some (sumL 14695981039346656037 ws) := by
  unfold sumof_M
  refine need_of (by omega) ?_
  have key : ∀ (t k : Nat) (s : Int), k + t = ws.length → rounds (fun k_ c_ s_ => sumof_R29 ws k_ c_ s_) (fun s_ => sumof_D29 s_) t k s = some (sumL s (ws.drop k)) := by
    intro t
    induction t with
    | zero =>
      intro k s hk
      rw [List.drop_of_length_le (by omega)]
      rfl
    | succ t ih =>
      intro k s hk
      have hlt : k < ws.length := by omega
      have e : ws.drop k = ws.getD k 0 :: ws.drop (k + 1) := by
        rw [List.drop_eq_getElem_cons hlt]
        simp [hlt]
      rw [e, sumL]
      exact ih (k + 1) _ (by omega)
  have := key ws.length 0 14695981039346656037 (by omega)
  rw [List.drop_zero] at this
  exact this
theorem rsum02_eq {ws : List Int} (h : ws.length ≤ 1000) : rsum02_M ws = some (sumL 14695981039346656037 ws) := by
  unfold rsum02_M
  refine iter_run (fun s : Int × Int => 0 ≤ s.2 ∧ s.2 ≤ (ws.length : Int) ∧ sumL s.1 (ws.drop s.2.toNat) = sumL 14695981039346656037 ws) (fun s => ((ws.length : Int) - s.2).toNat) ?_ _ _ ⟨by simp, by simp, rfl⟩ (fuel_lt (by simp only; omega))
  rintro k ⟨s, p⟩ ⟨h1, h2, h3⟩ ih
  simp only at h1 h2 h3 ih
  show rsum02_B0 ws k s p = _
  unfold rsum02_B0
  by_cases hp : p < (ws.length : Int)
  · rw [if_pos hp]
    have hlt : p.toNat < ws.length := by omega
    have e : ws.drop p.toNat = ws.getD p.toNat 0 :: ws.drop (p + 1).toNat := by
      rw [List.drop_eq_getElem_cons hlt, show (p + 1).toNat = p.toNat + 1 by omega]
      simp [hlt]
    rw [e, sumL] at h3
    exact need_of (by omega) (bind_of rfl (need_of (by omega) (ih _ ⟨by simp only; omega, by simp only; omega, h3⟩ (by simp only; omega))))
  · rw [if_neg hp, ← h3, List.drop_of_length_le (by omega)]
    rfl
theorem rbegin15_eq (s : ByteArray) : rbegin15_M s = ebegin_M s := by
  rcases ebegin_any s with ⟨m, b⟩ | ⟨m, ws, r, o, q, hr, b⟩
  · rw [b]
    unfold rbegin15_M
    refine bind_of (rmay15_eq s) ?_
    rw [m]
    rfl
  · rw [b]
    have h1 := mayB_iff.1 m
    have ho := opack_eq (s := s) (by omega)
    have hws : ws = packF s := some_inj (o.symm.trans ho)
    have hl := packF_len s
    subst hws
    rw [sumof_eq (by omega)] at q
    have et : r.tmod 12 = r % 12 := Int.tmod_eq_emod_of_nonneg hr.1
    unfold rbegin15_M
    refine bind_of (rmay15_eq s) ?_
    rw [m, if_pos rfl]
    refine bind_of (rpack_eq (by omega)) (bind_of ((rsum02_eq (by omega)).trans q) ?_)
    rw [et]
    exact need_of (by omega) rfl
theorem ebegin_range (s : ByteArray) : ∃ b : Nat, b < 12 ∧ ebegin_M s = some (b : Int) := by
  rcases ebegin_any s with ⟨m, b⟩ | ⟨m, ws, r, o, q, hr, b⟩
  · exact ⟨0, by omega, b⟩
  · exact ⟨(r % 12).toNat, by omega, by rw [b]; congr 1; omega⟩
end Go.Proofs.YtmmclabkkigiaaaGreat

set_option maxRecDepth 20000
set_option maxHeartbeats 2000000
namespace Go.Proofs.YtmmclabkkigiaaaGreat
open Go Go.RowKit
theorem rp_spec {b : Nat} {img : List Int} {l : List (Int × Int)} {gw gi gb n_ : Int} {x_ : Nd} (B : Nat) (w : World) : Spec Tryz.prog 24 #[(zp b), (.agg #[(zi gw), (zi gi), (zi gb)]), (zi n_), (.agg #[(zu x_.k), (zu x_.l), (zu x_.o), (zu x_.s), (zu x_.a), (zu x_.b), (zu x_.c), (zu x_.d), (zu x_.e), (zu x_.m)])] B w [refA (ptr b) img l] (fun v H' => v = .int .i64 (iputM img l gw gi gb n_ x_).1 ∧ H' = [refA (ptr b) img (iputM img l gw gi gb n_ x_).2]) := by
 refine spec_W Tryz.func24 rfl fun l0 hs => ?_
 have hrg := ifind_range (img.length : Int) gw gi gb n_
 refine W.sr fun K1 hK1 => ?_
 refine zN [(zi gw), (zi gi), (zi gb)] 37 hs fun b4 w2 hs3 => ?_
 refine zN [(zu x_.k), (zu x_.l), (zu x_.o), (zu x_.s), (zu x_.a), (zu x_.b), (zu x_.c), (zu x_.d), (zu x_.e), (zu x_.m)] 77 hs3 fun b7 w5 hs6 => ?_
 refine zE 1 (hK1 _ _ ?_)
 refine W.seq fun K8 hK8 => ?_
 refine W.sr fun K9 hK9 => ?_
 refine zG ⟨b4, 0, none⟩ [(zi gw), (zi gi), (zi gb)] (cells_sub (hs6.heapAt 1 rfl) rfl) ?_
 refine zG ⟨b7, 0, none⟩ [(zu x_.k), (zu x_.l), (zu x_.o), (zu x_.s), (zu x_.a), (zu x_.b), (zu x_.c), (zu x_.d), (zu x_.e), (zu x_.m)] (cells_sub (hs6.heapAt 0 rfl) rfl) ?_
 refine zC00 hs6 (rright_spec (gw := gw) (gi := gi) (gb := gb) (x_ := ⟨x_.k, x_.l, x_.o, x_.s, x_.a, x_.b, x_.c, x_.d, x_.e, x_.m⟩) B _) fun w10 hs12 => ?_
 refine zE 1 (hK9 _ _ ?_)
 refine W.cond (!(decide (RightP gw gi gb ⟨x_.k, x_.l, x_.o, x_.s, x_.a, x_.b, x_.c, x_.d, x_.e, x_.m⟩))) (by kernel_rfl) (fun h13 => ?_) (fun h13 => ?_)
 ·
  have h13p : ¬ (RightP gw gi gb ⟨x_.k, x_.l, x_.o, x_.s, x_.a, x_.b, x_.c, x_.d, x_.e, x_.m⟩) := of_decide_eq_false (bnot_true h13)
  refine W.sr fun K14 hK14 => ?_
  refine zE 1 (hK14 _ _ ?_)
  refine W.ret (ret_seq ?_)
  have hs15 := St.f2 hs12
  have hs16 := St.tk1 hs15
  have e1_ : (iputM img l gw gi gb n_ x_).1 = 1 := by first | (exfalso; omega) | (simp only [iputM]; first | (rw [if_neg (by assumption)]; try rfl; done) | (rw [if_pos (by assumption), if_neg (by assumption)]; try rfl; done) | (rw [if_pos (by assumption), if_pos (by assumption), hrg.2.2 (by assumption)]; try rfl; done))
  have e2_ : (iputM img l gw gi gb n_ x_).2 = l := by first | (exfalso; omega) | (simp only [iputM]; first | (rw [if_neg (by assumption)]; try rfl; done) | (rw [if_pos (by assumption), if_neg (by assumption)]; try rfl; done) | (rw [if_pos (by assumption), if_pos (by assumption), hrg.2.2 (by assumption)]; try rfl; done))
  refine ret_of (zi 1) (by kernel_rfl) ⟨_, ⟨by rw [e1_], by rw [e2_]⟩, hs16⟩
 have h13p : RightP gw gi gb ⟨x_.k, x_.l, x_.o, x_.s, x_.a, x_.b, x_.c, x_.d, x_.e, x_.m⟩ := of_decide_eq_true (bnot_false h13)
 refine W.skip ?_
 refine hK8 _ _ ?_
 refine W.sr fun K17 hK17 => ?_
 refine zR 1 ?_
 refine zG ⟨b4, 0, none⟩ [(zi gw), (zi gi), (zi gb)] (cells_sub (hs12.heapAt 1 rfl) rfl) ?_
 refine zR 1 ?_
 refine zC00 hs12 (there_spec (gw := gw) (gi := gi) (gb := gb) (n_ := n_) (hv := (hs12.entAt 2 rfl refA_at)) B _) fun w18 hs20 => ?_
 refine zE 1 (hK17 _ _ ?_)
 refine W.seq fun K21 hK21 => ?_
 refine W.sr fun K22 hK22 => ?_
 refine zE 2 (hK22 _ _ ?_)
 refine W.cond (!decide ((ifind (img.length : Int) gw gi gb n_).2 = 0)) (by kernel_rfl) (fun h23 => ?_) (fun h23 => ?_)
 ·
  have h23p : ¬ ((ifind (img.length : Int) gw gi gb n_).2 = 0) := of_decide_eq_false (bnot_true h23)
  refine W.sr fun K24 hK24 => ?_
  refine zE 2 (hK24 _ _ ?_)
  refine W.ret (ret_seq ?_)
  have hs25 := St.f2 hs20
  have hs26 := St.tk1 hs25
  have e1_ : (iputM img l gw gi gb n_ x_).1 = (ifind (img.length : Int) gw gi gb n_).2 := by first | (exfalso; omega) | (simp only [iputM]; first | (rw [if_neg (by assumption)]; try rfl; done) | (rw [if_pos (by assumption), if_neg (by assumption)]; try rfl; done) | (rw [if_pos (by assumption), if_pos (by assumption), hrg.2.2 (by assumption)]; try rfl; done))
  have e2_ : (iputM img l gw gi gb n_ x_).2 = l := by first | (exfalso; omega) | (simp only [iputM]; first | (rw [if_neg (by assumption)]; try rfl; done) | (rw [if_pos (by assumption), if_neg (by assumption)]; try rfl; done) | (rw [if_pos (by assumption), if_pos (by assumption), hrg.2.2 (by assumption)]; try rfl; done))
  refine ret_of (zi ((ifind (img.length : Int) gw gi gb n_).2)) (by kernel_rfl) ⟨_, ⟨by rw [e1_], by rw [e2_]⟩, hs26⟩
 have h23p : (ifind (img.length : Int) gw gi gb n_).2 = 0 := of_decide_eq_true (bnot_false h23)
 refine W.skip ?_
 refine hK21 _ _ ?_
 refine W.seq fun K27 hK27 => ?_
 have hs28 := hs20.drew
 have hs29 := St.f1 hs28
 have hs30 := St.f1 hs29
 have hs31 := St.tk2 hs30
 refine W.regionD [(0, 0), (0, 0), (0, 0), (6, 6), (0, 0), (16, 16), (0, 0), (64, 64), (0, 0), (256, 256), (0, 0), (1024, 1024), (0, 0), (4096, 4096), (8192, 8192), (0, 0), (32768, 32768), (65536, 65536), (0, 0), (262144, 262144), (524288, 524288), (0, 0), (2097152, 2097152), (4194304, 4194304), (0, 0), (16777216, 16777216), (0, 0), (67108864, 67108864), (177359520, 177359520), (268435465, 268435465), (1073741823, 536870912)] (fun w_ => St B w l0 w_ [zb b7 77 [(zu x_.k), (zu x_.l), (zu x_.o), (zu x_.s), (zu x_.a), (zu x_.b), (zu x_.c), (zu x_.d), (zu x_.e), (zu x_.m)], zb b4 37 [(zi gw), (zi gi), (zi gb)]]) (by kernel_rfl) hs31 ?_
 refine zA (zp b) 0 hs31 ?_
 refine any_R 1 (by kernel_rfl) (fun _ hS_ => runs_loadAgg (ad := ⟨b4, 0, none⟩) (cs := [(zi gw), (zi gi), (zi gb)]) (by kernel_rfl) (cells_sub (hS_.heapAt 1 rfl) rfl)) hs31 ?_
 refine zA (zi n_) 2 hs31 ?_
 refine zA (zp b7) 4 hs31 ?_
 refine zB 5 ⟨b7, 0, none⟩ (zu x_.k) (fun _ hS_ => (hS_.cellAt 0 rfl rfl)) hs31 ?_
 refine zA (.pointer (some ⟨b7, 1, none⟩)) 6 hs31 ?_
 refine zB 7 ⟨b7, 1, none⟩ (zu x_.l) (fun _ hS_ => (hS_.cellAt 0 rfl rfl)) hs31 ?_
 refine zA (.pointer (some ⟨b7, 2, none⟩)) 8 hs31 ?_
 refine zB 9 ⟨b7, 2, none⟩ (zu x_.o) (fun _ hS_ => (hS_.cellAt 0 rfl rfl)) hs31 ?_
 refine zA (.pointer (some ⟨b7, 3, none⟩)) 10 hs31 ?_
 refine zB 11 ⟨b7, 3, none⟩ (zu x_.s) (fun _ hS_ => (hS_.cellAt 0 rfl rfl)) hs31 ?_
 refine zA (.pointer (some ⟨b7, 4, none⟩)) 12 hs31 ?_
 refine zA (.pointer (some ⟨b7, 4, none⟩)) 13 hs31 ?_
 refine zB 14 ⟨b7, 4, none⟩ (zu x_.a) (fun _ hS_ => (hS_.cellAt 0 rfl rfl)) hs31 ?_
 refine zA (.pointer (some ⟨b7, 4, none⟩)) 15 hs31 ?_
 refine zA (.pointer (some ⟨b7, 5, none⟩)) 16 hs31 ?_
 refine zB 17 ⟨b7, 5, none⟩ (zu x_.b) (fun _ hS_ => (hS_.cellAt 0 rfl rfl)) hs31 ?_
 refine zA (.pointer (some ⟨b7, 4, none⟩)) 18 hs31 ?_
 refine zA (.pointer (some ⟨b7, 6, none⟩)) 19 hs31 ?_
 refine zB 20 ⟨b7, 6, none⟩ (zu x_.c) (fun _ hS_ => (hS_.cellAt 0 rfl rfl)) hs31 ?_
 refine zA (.pointer (some ⟨b7, 4, none⟩)) 21 hs31 ?_
 refine zA (.pointer (some ⟨b7, 7, none⟩)) 22 hs31 ?_
 refine zB 23 ⟨b7, 7, none⟩ (zu x_.d) (fun _ hS_ => (hS_.cellAt 0 rfl rfl)) hs31 ?_
 refine zA (.pointer (some ⟨b7, 8, none⟩)) 24 hs31 ?_
 refine zB 25 ⟨b7, 8, none⟩ (zu x_.e) (fun _ hS_ => (hS_.cellAt 0 rfl rfl)) hs31 ?_
 refine zA (.pointer (some ⟨b7, 9, none⟩)) 26 hs31 ?_
 refine zB 27 ⟨b7, 9, none⟩ (zu x_.m) (fun _ hS_ => (hS_.cellAt 0 rfl rfl)) hs31 ?_
 refine any_step2 3 28 (by kernel_rfl) (by kernel_rfl) (by kernel_rfl) ?_ ?_
 ·
  refine zC00 hs28 (rinodeat_spec (gw := gw) (gi := gi) (gb := gb) (n_ := n_) B _) fun w32 hs34 => ?_
  have hs35 := St.f1 hs34
  have hs36 := St.f1 hs35
  have hs37 := St.tk2 hs36
  refine ops_done (by kernel_rfl) ⟨hs37, ?_⟩
  refine any_step 28 (by kernel_rfl) (by kernel_rfl) ?_
  refine ops_new (fun b => .slice (some ⟨b, 0, none⟩) 10 10) (.cells [(zu x_.k), (zu x_.l), (zu x_.o), (zu x_.s), (zu x_.a), (zu x_.b), (zu x_.c), (zu x_.d), (zu x_.e), (zu x_.m)].toArray 34 (0, 0)) hs34 (by kernel_rfl) (fun b40 w38 hs39 => ?_)
  have hs41 := St.f2 hs39
  have hs42 := St.f2 hs41
  have hs43 := St.tk2 hs42
  refine ops_done (by kernel_rfl) ⟨hs43, ?_⟩
  refine any_step 29 (by kernel_rfl) (by kernel_rfl) ?_
  have hs44 : St B w l0 w38 [kU64.row (some ⟨b40, 0, none⟩) 10 ([x_.k, x_.l, x_.o, x_.s, x_.a, x_.b, x_.c, x_.d, x_.e, x_.m]), zb b7 77 [(zu x_.k), (zu x_.l), (zu x_.o), (zu x_.s), (zu x_.a), (zu x_.b), (zu x_.c), (zu x_.d), (zu x_.e), (zu x_.m)], zb b4 37 [(zi gw), (zi gi), (zi gb)], refA (ptr b) img l] := St.kblk kU64 [x_.k, x_.l, x_.o, x_.s, x_.a, x_.b, x_.c, x_.d, x_.e, x_.m] hs39 rfl rfl (by simp only [List.length_cons, List.length_nil]; decide)
  have hs45 := St.f3 hs44
  refine zC21 hs45 (rall_spec (b := b) (img := img) (l := l) (at_ := (placeOf 8 gw gi gb n_)) (la := (some ⟨b40, 0, none⟩)) (lc := 10) (ws := [x_.k, x_.l, x_.o, x_.s, x_.a, x_.b, x_.c, x_.d, x_.e, x_.m]) (n := 10) (hn := rfl) (hsz := (by simp only [List.length_cons, List.length_nil]; decide)) (hat := (by omega)) B _) fun w46 hs48 => ?_
  have hs49 := St.f2 hs48
  have hs50 := St.f2 hs49
  have hs51 := St.tk2 hs50
  refine ops_done (by kernel_rfl) ⟨hs51, ?_⟩
  refine zA (zi ((vwrites img (placeOf 8 gw gi gb n_) l 0 ([x_.k, x_.l, x_.o, x_.s, x_.a, x_.b, x_.c, x_.d, x_.e, x_.m])).1)) 30 hs51 ?_
  refine any_done (by kernel_rfl) ?_
  refine hK27 _ _ ?_
  refine W.ret ?_
  have hs52 := St.tk1 hs48
  have e1_ : (iputM img l gw gi gb n_ x_).1 = (vwrites img (placeOf 8 gw gi gb n_) l 0 ([x_.k, x_.l, x_.o, x_.s, x_.a, x_.b, x_.c, x_.d, x_.e, x_.m])).1 := by first | (exfalso; omega) | (simp only [iputM]; first | (rw [if_neg (by assumption)]; try rfl; done) | (rw [if_pos (by assumption), if_neg (by assumption)]; try rfl; done) | (rw [if_pos (by assumption), if_pos (by assumption), hrg.2.2 (by assumption)]; try rfl; done))
  have e2_ : (iputM img l gw gi gb n_ x_).2 = (vwrites img (placeOf 8 gw gi gb n_) l 0 ([x_.k, x_.l, x_.o, x_.s, x_.a, x_.b, x_.c, x_.d, x_.e, x_.m])).2 := by first | (exfalso; omega) | (simp only [iputM]; first | (rw [if_neg (by assumption)]; try rfl; done) | (rw [if_pos (by assumption), if_neg (by assumption)]; try rfl; done) | (rw [if_pos (by assumption), if_pos (by assumption), hrg.2.2 (by assumption)]; try rfl; done))
  refine ret_of (zi ((vwrites img (placeOf 8 gw gi gb n_) l 0 ([x_.k, x_.l, x_.o, x_.s, x_.a, x_.b, x_.c, x_.d, x_.e, x_.m])).1)) (by kernel_rfl) ⟨_, ⟨by rw [e1_], by rw [e2_]⟩, hs52⟩
 refine ops_new (fun b => .slice (some ⟨b, 0, none⟩) 10 10) (.cells [(zu x_.k), (zu x_.l), (zu x_.o), (zu x_.s), (zu x_.a), (zu x_.b), (zu x_.c), (zu x_.d), (zu x_.e), (zu x_.m)].toArray 34 (0, 0)) hs28 (by kernel_rfl) (fun b55 w53 hs54 => ?_)
 have hs56 := St.f2 hs54
 have hs57 := St.f2 hs56
 have hs58 := St.tk2 hs57
 refine ops_done (by kernel_rfl) ⟨hs58, ?_⟩
 refine any_step 3 (by kernel_rfl) (by kernel_rfl) ?_
 refine zC00 hs54 (rinodeat_spec (gw := gw) (gi := gi) (gb := gb) (n_ := n_) B _) fun w59 hs61 => ?_
 have hs62 := St.f2 hs61
 have hs63 := St.f2 hs62
 have hs64 := St.tk2 hs63
 refine ops_done (by kernel_rfl) ⟨hs64, ?_⟩
 refine any_step 29 (by kernel_rfl) (by kernel_rfl) ?_
 have hs65 : St B w l0 w59 [kU64.row (some ⟨b55, 0, none⟩) 10 ([x_.k, x_.l, x_.o, x_.s, x_.a, x_.b, x_.c, x_.d, x_.e, x_.m]), zb b7 77 [(zu x_.k), (zu x_.l), (zu x_.o), (zu x_.s), (zu x_.a), (zu x_.b), (zu x_.c), (zu x_.d), (zu x_.e), (zu x_.m)], zb b4 37 [(zi gw), (zi gi), (zi gb)], refA (ptr b) img l] := St.kblk kU64 [x_.k, x_.l, x_.o, x_.s, x_.a, x_.b, x_.c, x_.d, x_.e, x_.m] hs61 rfl rfl (by simp only [List.length_cons, List.length_nil]; decide)
 have hs66 := St.f3 hs65
 refine zC21 hs66 (rall_spec (b := b) (img := img) (l := l) (at_ := (placeOf 8 gw gi gb n_)) (la := (some ⟨b55, 0, none⟩)) (lc := 10) (ws := [x_.k, x_.l, x_.o, x_.s, x_.a, x_.b, x_.c, x_.d, x_.e, x_.m]) (n := 10) (hn := rfl) (hsz := (by simp only [List.length_cons, List.length_nil]; decide)) (hat := (by omega)) B _) fun w67 hs69 => ?_
 have hs70 := St.f2 hs69
 have hs71 := St.f2 hs70
 have hs72 := St.tk2 hs71
 refine ops_done (by kernel_rfl) ⟨hs72, ?_⟩
 refine zA (zi ((vwrites img (placeOf 8 gw gi gb n_) l 0 ([x_.k, x_.l, x_.o, x_.s, x_.a, x_.b, x_.c, x_.d, x_.e, x_.m])).1)) 30 hs72 ?_
 refine any_done (by kernel_rfl) ?_
 refine hK27 _ _ ?_
 refine W.ret ?_
 have hs73 := St.tk1 hs69
 have e1_ : (iputM img l gw gi gb n_ x_).1 = (vwrites img (placeOf 8 gw gi gb n_) l 0 ([x_.k, x_.l, x_.o, x_.s, x_.a, x_.b, x_.c, x_.d, x_.e, x_.m])).1 := by first | (exfalso; omega) | (simp only [iputM]; first | (rw [if_neg (by assumption)]; try rfl; done) | (rw [if_pos (by assumption), if_neg (by assumption)]; try rfl; done) | (rw [if_pos (by assumption), if_pos (by assumption), hrg.2.2 (by assumption)]; try rfl; done))
 have e2_ : (iputM img l gw gi gb n_ x_).2 = (vwrites img (placeOf 8 gw gi gb n_) l 0 ([x_.k, x_.l, x_.o, x_.s, x_.a, x_.b, x_.c, x_.d, x_.e, x_.m])).2 := by first | (exfalso; omega) | (simp only [iputM]; first | (rw [if_neg (by assumption)]; try rfl; done) | (rw [if_pos (by assumption), if_neg (by assumption)]; try rfl; done) | (rw [if_pos (by assumption), if_pos (by assumption), hrg.2.2 (by assumption)]; try rfl; done))
 refine ret_of (zi ((vwrites img (placeOf 8 gw gi gb n_) l 0 ([x_.k, x_.l, x_.o, x_.s, x_.a, x_.b, x_.c, x_.d, x_.e, x_.m])).1)) (by kernel_rfl) ⟨_, ⟨by rw [e1_], by rw [e2_]⟩, hs73⟩
end Go.Proofs.YtmmclabkkigiaaaGreat

set_option maxRecDepth 20000
set_option maxHeartbeats 2000000
namespace Go.Proofs.YtmmclabkkigiaaaGreat
open Go Go.RowKit
theorem rg_spec {b : Nat} {img : List Int} {l : List (Int × Int)} {gw gi gb n_ : Int} (B : Nat) (w : World) (hv : RefAt (ptr b) img l w) : Spec Tryz.prog 34 #[(zp b), (.agg #[(zi gw), (zi gi), (zi gb)]), (zi n_)] B w [] (fun v H' => v = (.tuple #[(.agg #[(zu ((igetM img l gw gi gb n_).1.k)), (zu ((igetM img l gw gi gb n_).1.l)), (zu ((igetM img l gw gi gb n_).1.o)), (zu ((igetM img l gw gi gb n_).1.s)), (zu ((igetM img l gw gi gb n_).1.a)), (zu ((igetM img l gw gi gb n_).1.b)), (zu ((igetM img l gw gi gb n_).1.c)), (zu ((igetM img l gw gi gb n_).1.d)), (zu ((igetM img l gw gi gb n_).1.e)), (zu ((igetM img l gw gi gb n_).1.m))]), (zi ((igetM img l gw gi gb n_).2))]) ∧ H' = []) := by
 refine spec_Q Tryz.func34 rfl fun hs => ?_
 have hrg := ifind_range (img.length : Int) gw gi gb n_
 refine W.sr fun K1 hK1 => ?_
 refine zN [(zi gw), (zi gi), (zi gb)] 37 hs fun b4 w2 hs3 => ?_
 refine zN [(zu 0), (zu 0), (zu 0), (zu 0), (zu 0), (zu 0), (zu 0), (zu 0), (zu 0), (zu 0)] 77 hs3 fun b7 w5 hs6 => ?_
 refine zE 1 (hK1 _ _ ?_)
 refine W.sr fun K8 hK8 => ?_
 refine zR 1 ?_
 refine zG ⟨b4, 0, none⟩ [(zi gw), (zi gi), (zi gb)] (cells_sub (hs6.heapAt 1 rfl) rfl) ?_
 refine zR 1 ?_
 refine zC00 hs6 (there_spec (gw := gw) (gi := gi) (gb := gb) (n_ := n_) (hv := (refAt_old hs6 hv)) B _) fun w9 hs11 => ?_
 refine zE 1 (hK8 _ _ ?_)
 refine W.seq fun K12 hK12 => ?_
 refine W.sr fun K13 hK13 => ?_
 refine zE 2 (hK13 _ _ ?_)
 refine W.cond (!decide ((ifind (img.length : Int) gw gi gb n_).2 = 0)) (by kernel_rfl) (fun h14 => ?_) (fun h14 => ?_)
 ·
  have h14p : ¬ ((ifind (img.length : Int) gw gi gb n_).2 = 0) := of_decide_eq_false (bnot_true h14)
  refine W.sr fun K15 hK15 => ?_
  refine zR 2 ?_
  refine zT 0 [(zu 0), (zu 0), (zu 0), (zu 0), (zu 0), (zu 0), (zu 0), (zu 0), (zu 0), (zu 0)] [(zu 0), (zu 0), (zu 0), (zu 0), (zu 0), (zu 0), (zu 0), (zu 0), (zu 0), (zu 0)] hs11 fun w16 hs18 => ?_
  refine zE 1 (hK15 _ _ ?_)
  refine W.ret (ret_seq ?_)
  have e_ : igetM img l gw gi gb n_ = (Nd.zero, (ifind (img.length : Int) gw gi gb n_).2) := by first | (exfalso; omega) | (simp only [igetM]; exact if_neg (by assumption))
  have hs19 := St.tk0 hs18
  refine ret_of (.tuple #[(.agg #[(zu 0), (zu 0), (zu 0), (zu 0), (zu 0), (zu 0), (zu 0), (zu 0), (zu 0), (zu 0)]), (zi ((ifind (img.length : Int) gw gi gb n_).2))]) (results_cell2 (ad := ⟨b7, 0, none⟩) (cs := [(zu 0), (zu 0), (zu 0), (zu 0), (zu 0), (zu 0), (zu 0), (zu 0), (zu 0), (zu 0)]) rfl (by kernel_rfl) (by kernel_rfl) (by kernel_rfl) (cells_sub (hs18.heapAt 0 rfl) rfl)) ⟨_, ⟨by rw [e_]; try rfl, rfl⟩, hs19⟩
 have h14p : (ifind (img.length : Int) gw gi gb n_).2 = 0 := of_decide_eq_true (bnot_false h14)
 refine W.skip ?_
 refine hK12 _ _ ?_
 refine W.sr fun K20 hK20 => ?_
 refine zG ⟨b4, 0, none⟩ [(zi gw), (zi gi), (zi gb)] (cells_sub (hs11.heapAt 1 rfl) rfl) ?_
 refine zR 1 ?_
 refine zC00 hs11 (rinodeat_spec (gw := gw) (gi := gi) (gb := gb) (n_ := n_) B _) fun w21 hs23 => ?_
 refine zE 1 (hK20 _ _ ?_)
 refine W.sr fun K24 hK24 => ?_
 refine zR 2 ?_
 refine zC00 hs23 (rget_spec (at_ := (placeOf 8 gw gi gb n_)) (hv := (refAt_old hs23 hv)) B _) fun w25 hs27 => ?_
 refine zR 2 ?_
 refine zI ((placeOf 8 gw gi gb n_) + 1) (wrap_i64 (by omega) (by omega)) ?_
 refine zC00 hs27 (rget_spec (at_ := ((placeOf 8 gw gi gb n_) + 1)) (hv := (refAt_old hs27 hv)) B _) fun w28 hs30 => ?_
 refine zR 2 ?_
 refine zI ((placeOf 8 gw gi gb n_) + 2) (wrap_i64 (by omega) (by omega)) ?_
 refine zC00 hs30 (rget_spec (at_ := ((placeOf 8 gw gi gb n_) + 2)) (hv := (refAt_old hs30 hv)) B _) fun w31 hs33 => ?_
 refine zR 2 ?_
 refine zI ((placeOf 8 gw gi gb n_) + 3) (wrap_i64 (by omega) (by omega)) ?_
 refine zC00 hs33 (rget_spec (at_ := ((placeOf 8 gw gi gb n_) + 3)) (hv := (refAt_old hs33 hv)) B _) fun w34 hs36 => ?_
 refine zR 2 ?_
 refine zI ((placeOf 8 gw gi gb n_) + 8) (wrap_i64 (by omega) (by omega)) ?_
 refine zC00 hs36 (rget_spec (at_ := ((placeOf 8 gw gi gb n_) + 8)) (hv := (refAt_old hs36 hv)) B _) fun w37 hs39 => ?_
 refine zR 2 ?_
 refine zI ((placeOf 8 gw gi gb n_) + 9) (wrap_i64 (by omega) (by omega)) ?_
 refine zC00 hs39 (rget_spec (at_ := ((placeOf 8 gw gi gb n_) + 9)) (hv := (refAt_old hs39 hv)) B _) fun w40 hs42 => ?_
 refine zR 1 ?_
 refine zN [(zu 0), (zu 0), (zu 0), (zu 0), (zu 0), (zu 0), (zu 0), (zu 0), (zu 0), (zu 0)] 77 hs42 fun b45 w43 hs44 => ?_
 refine zT 0 [(zu (vget img l (placeOf 8 gw gi gb n_))), (zu (vget img l ((placeOf 8 gw gi gb n_) + 1))), (zu (vget img l ((placeOf 8 gw gi gb n_) + 2))), (zu (vget img l ((placeOf 8 gw gi gb n_) + 3))), (zu 0), (zu 0), (zu 0), (zu 0), (zu (vget img l ((placeOf 8 gw gi gb n_) + 8))), (zu (vget img l ((placeOf 8 gw gi gb n_) + 9)))] [(zu (vget img l (placeOf 8 gw gi gb n_))), (zu (vget img l ((placeOf 8 gw gi gb n_) + 1))), (zu (vget img l ((placeOf 8 gw gi gb n_) + 2))), (zu (vget img l ((placeOf 8 gw gi gb n_) + 3))), (zu 0), (zu 0), (zu 0), (zu 0), (zu (vget img l ((placeOf 8 gw gi gb n_) + 8))), (zu (vget img l ((placeOf 8 gw gi gb n_) + 9)))] hs44 fun w46 hs48 => ?_
 refine zD (hK24 _ _ ?_)
 refine W.seq fun K49 hK49 => ?_
 refine W.sr fun K50 hK50 => ?_
 refine zE 1 (hK50 _ _ ?_)
 refine W.block ?_
 refine W.loop_start ?_
 refine loopAt_round ?_
 refine W.seq fun K51 hK51 => ?_
 refine W.sr fun K52 hK52 => ?_
 refine zE 2 (hK52 _ _ ?_)
 refine W.cond_true true (by kernel_rfl) rfl ?_
 refine W.skip ?_
 refine hK51 _ _ ?_
 refine W.seq fun K53 hK53 => ?_
 refine W.block ?_
 refine W.region ?_
 refine zR 3 ?_
 refine zI ((placeOf 8 gw gi gb n_) + 4) (wrap_i64 (by omega) (by omega)) ?_
 refine zR 1 ?_
 refine zI (((placeOf 8 gw gi gb n_) + 4) + 0) (wrap_i64 (by omega) (by omega)) ?_
 refine zC00 hs48 (rget_spec (at_ := (((placeOf 8 gw gi gb n_) + 4) + 0)) (hv := (refAt_old hs48 hv)) B _) fun w54 hs56 => ?_
 refine zR 2 ?_
 refine zT 4 [(zu (vget img l (((placeOf 8 gw gi gb n_) + 4) + 0)))] [(zu (vget img l (placeOf 8 gw gi gb n_))), (zu (vget img l ((placeOf 8 gw gi gb n_) + 1))), (zu (vget img l ((placeOf 8 gw gi gb n_) + 2))), (zu (vget img l ((placeOf 8 gw gi gb n_) + 3))), (zu (vget img l (((placeOf 8 gw gi gb n_) + 4) + 0))), (zu 0), (zu 0), (zu 0), (zu (vget img l ((placeOf 8 gw gi gb n_) + 8))), (zu (vget img l ((placeOf 8 gw gi gb n_) + 9)))] hs56 fun w57 hs59 => ?_
 refine zD ?_
 refine normal_block ?_
 refine hK53 _ _ ?_
 refine W.region ?_
 refine zE 3 ?_
 refine loopAt_next ?_
 refine loopAt_round ?_
 refine W.seq fun K60 hK60 => ?_
 refine W.sr fun K61 hK61 => ?_
 refine zE 2 (hK61 _ _ ?_)
 refine W.cond_true true (by kernel_rfl) rfl ?_
 refine W.skip ?_
 refine hK60 _ _ ?_
 refine W.seq fun K62 hK62 => ?_
 refine W.block ?_
 refine W.region ?_
 refine zR 3 ?_
 refine zI ((placeOf 8 gw gi gb n_) + 4) (wrap_i64 (by omega) (by omega)) ?_
 refine zR 1 ?_
 refine zI (((placeOf 8 gw gi gb n_) + 4) + 1) (wrap_i64 (by omega) (by omega)) ?_
 refine zC00 hs59 (rget_spec (at_ := (((placeOf 8 gw gi gb n_) + 4) + 1)) (hv := (refAt_old hs59 hv)) B _) fun w63 hs65 => ?_
 refine zR 2 ?_
 refine zT 5 [(zu (vget img l (((placeOf 8 gw gi gb n_) + 4) + 1)))] [(zu (vget img l (placeOf 8 gw gi gb n_))), (zu (vget img l ((placeOf 8 gw gi gb n_) + 1))), (zu (vget img l ((placeOf 8 gw gi gb n_) + 2))), (zu (vget img l ((placeOf 8 gw gi gb n_) + 3))), (zu (vget img l (((placeOf 8 gw gi gb n_) + 4) + 0))), (zu (vget img l (((placeOf 8 gw gi gb n_) + 4) + 1))), (zu 0), (zu 0), (zu (vget img l ((placeOf 8 gw gi gb n_) + 8))), (zu (vget img l ((placeOf 8 gw gi gb n_) + 9)))] hs65 fun w66 hs68 => ?_
 refine zD ?_
 refine normal_block ?_
 refine hK62 _ _ ?_
 refine W.region ?_
 refine zE 3 ?_
 refine loopAt_next ?_
 refine loopAt_round ?_
 refine W.seq fun K69 hK69 => ?_
 refine W.sr fun K70 hK70 => ?_
 refine zE 2 (hK70 _ _ ?_)
 refine W.cond_true true (by kernel_rfl) rfl ?_
 refine W.skip ?_
 refine hK69 _ _ ?_
 refine W.seq fun K71 hK71 => ?_
 refine W.block ?_
 refine W.region ?_
 refine zR 3 ?_
 refine zI ((placeOf 8 gw gi gb n_) + 4) (wrap_i64 (by omega) (by omega)) ?_
 refine zR 1 ?_
 refine zI (((placeOf 8 gw gi gb n_) + 4) + 2) (wrap_i64 (by omega) (by omega)) ?_
 refine zC00 hs68 (rget_spec (at_ := (((placeOf 8 gw gi gb n_) + 4) + 2)) (hv := (refAt_old hs68 hv)) B _) fun w72 hs74 => ?_
 refine zR 2 ?_
 refine zT 6 [(zu (vget img l (((placeOf 8 gw gi gb n_) + 4) + 2)))] [(zu (vget img l (placeOf 8 gw gi gb n_))), (zu (vget img l ((placeOf 8 gw gi gb n_) + 1))), (zu (vget img l ((placeOf 8 gw gi gb n_) + 2))), (zu (vget img l ((placeOf 8 gw gi gb n_) + 3))), (zu (vget img l (((placeOf 8 gw gi gb n_) + 4) + 0))), (zu (vget img l (((placeOf 8 gw gi gb n_) + 4) + 1))), (zu (vget img l (((placeOf 8 gw gi gb n_) + 4) + 2))), (zu 0), (zu (vget img l ((placeOf 8 gw gi gb n_) + 8))), (zu (vget img l ((placeOf 8 gw gi gb n_) + 9)))] hs74 fun w75 hs77 => ?_
 refine zD ?_
 refine normal_block ?_
 refine hK71 _ _ ?_
 refine W.region ?_
 refine zE 3 ?_
 refine loopAt_next ?_
 refine loopAt_round ?_
 refine W.seq fun K78 hK78 => ?_
 refine W.sr fun K79 hK79 => ?_
 refine zE 2 (hK79 _ _ ?_)
 refine W.cond_true true (by kernel_rfl) rfl ?_
 refine W.skip ?_
 refine hK78 _ _ ?_
 refine W.seq fun K80 hK80 => ?_
 refine W.block ?_
 refine W.region ?_
 refine zR 3 ?_
 refine zI ((placeOf 8 gw gi gb n_) + 4) (wrap_i64 (by omega) (by omega)) ?_
 refine zR 1 ?_
 refine zI (((placeOf 8 gw gi gb n_) + 4) + 3) (wrap_i64 (by omega) (by omega)) ?_
 refine zC00 hs77 (rget_spec (at_ := (((placeOf 8 gw gi gb n_) + 4) + 3)) (hv := (refAt_old hs77 hv)) B _) fun w81 hs83 => ?_
 refine zR 2 ?_
 refine zT 7 [(zu (vget img l (((placeOf 8 gw gi gb n_) + 4) + 3)))] [(zu (vget img l (placeOf 8 gw gi gb n_))), (zu (vget img l ((placeOf 8 gw gi gb n_) + 1))), (zu (vget img l ((placeOf 8 gw gi gb n_) + 2))), (zu (vget img l ((placeOf 8 gw gi gb n_) + 3))), (zu (vget img l (((placeOf 8 gw gi gb n_) + 4) + 0))), (zu (vget img l (((placeOf 8 gw gi gb n_) + 4) + 1))), (zu (vget img l (((placeOf 8 gw gi gb n_) + 4) + 2))), (zu (vget img l (((placeOf 8 gw gi gb n_) + 4) + 3))), (zu (vget img l ((placeOf 8 gw gi gb n_) + 8))), (zu (vget img l ((placeOf 8 gw gi gb n_) + 9)))] hs83 fun w84 hs86 => ?_
 refine zD ?_
 refine normal_block ?_
 refine hK80 _ _ ?_
 refine W.region ?_
 refine zE 3 ?_
 refine loopAt_next ?_
 refine loopAt_round ?_
 refine W.seq fun K87 hK87 => ?_
 refine W.sr fun K88 hK88 => ?_
 refine zE 2 (hK88 _ _ ?_)
 refine W.cond_false false (by kernel_rfl) rfl ?_
 refine W.exit (exit_seq (exit_seq (exit_here ?_)))
 refine hK49 _ _ ?_
 refine W.seq fun K89 hK89 => ?_
 refine W.sr fun K90 hK90 => ?_
 refine zG ⟨b4, 0, none⟩ [(zi gw), (zi gi), (zi gb)] (cells_sub (hs86.heapAt 2 rfl) rfl) ?_
 refine zG ⟨b45, 0, none⟩ [(zu (vget img l (placeOf 8 gw gi gb n_))), (zu (vget img l ((placeOf 8 gw gi gb n_) + 1))), (zu (vget img l ((placeOf 8 gw gi gb n_) + 2))), (zu (vget img l ((placeOf 8 gw gi gb n_) + 3))), (zu (vget img l (((placeOf 8 gw gi gb n_) + 4) + 0))), (zu (vget img l (((placeOf 8 gw gi gb n_) + 4) + 1))), (zu (vget img l (((placeOf 8 gw gi gb n_) + 4) + 2))), (zu (vget img l (((placeOf 8 gw gi gb n_) + 4) + 3))), (zu (vget img l ((placeOf 8 gw gi gb n_) + 8))), (zu (vget img l ((placeOf 8 gw gi gb n_) + 9)))] (cells_sub (hs86.heapAt 0 rfl) rfl) ?_
 refine zC00 hs86 (rright_spec (gw := gw) (gi := gi) (gb := gb) (x_ := ⟨(vget img l (placeOf 8 gw gi gb n_)), (vget img l ((placeOf 8 gw gi gb n_) + 1)), (vget img l ((placeOf 8 gw gi gb n_) + 2)), (vget img l ((placeOf 8 gw gi gb n_) + 3)), (vget img l (((placeOf 8 gw gi gb n_) + 4) + 0)), (vget img l (((placeOf 8 gw gi gb n_) + 4) + 1)), (vget img l (((placeOf 8 gw gi gb n_) + 4) + 2)), (vget img l (((placeOf 8 gw gi gb n_) + 4) + 3)), (vget img l ((placeOf 8 gw gi gb n_) + 8)), (vget img l ((placeOf 8 gw gi gb n_) + 9))⟩) B _) fun w91 hs93 => ?_
 refine zE 1 (hK90 _ _ ?_)
 refine W.cond (!(decide (RightP gw gi gb ⟨(vget img l (placeOf 8 gw gi gb n_)), (vget img l ((placeOf 8 gw gi gb n_) + 1)), (vget img l ((placeOf 8 gw gi gb n_) + 2)), (vget img l ((placeOf 8 gw gi gb n_) + 3)), (vget img l (((placeOf 8 gw gi gb n_) + 4) + 0)), (vget img l (((placeOf 8 gw gi gb n_) + 4) + 1)), (vget img l (((placeOf 8 gw gi gb n_) + 4) + 2)), (vget img l (((placeOf 8 gw gi gb n_) + 4) + 3)), (vget img l ((placeOf 8 gw gi gb n_) + 8)), (vget img l ((placeOf 8 gw gi gb n_) + 9))⟩))) (by kernel_rfl) (fun h94 => ?_) (fun h94 => ?_)
 ·
  have h94p : ¬ (RightP gw gi gb ⟨(vget img l (placeOf 8 gw gi gb n_)), (vget img l ((placeOf 8 gw gi gb n_) + 1)), (vget img l ((placeOf 8 gw gi gb n_) + 2)), (vget img l ((placeOf 8 gw gi gb n_) + 3)), (vget img l (((placeOf 8 gw gi gb n_) + 4) + 0)), (vget img l (((placeOf 8 gw gi gb n_) + 4) + 1)), (vget img l (((placeOf 8 gw gi gb n_) + 4) + 2)), (vget img l (((placeOf 8 gw gi gb n_) + 4) + 3)), (vget img l ((placeOf 8 gw gi gb n_) + 8)), (vget img l ((placeOf 8 gw gi gb n_) + 9))⟩) := of_decide_eq_false (bnot_true h94)
  refine W.sr fun K95 hK95 => ?_
  refine zR 1 ?_
  have hs98 := St.f1 hs93
  refine zT 0 [(zu 0), (zu 0), (zu 0), (zu 0), (zu 0), (zu 0), (zu 0), (zu 0), (zu 0), (zu 0)] [(zu 0), (zu 0), (zu 0), (zu 0), (zu 0), (zu 0), (zu 0), (zu 0), (zu 0), (zu 0)] hs98 fun w96 hs99 => ?_
  refine zE 1 (hK95 _ _ ?_)
  refine W.ret (ret_seq ?_)
  have en_ : (⟨(vget img l (placeOf 8 gw gi gb n_)), (vget img l ((placeOf 8 gw gi gb n_) + 1)), (vget img l ((placeOf 8 gw gi gb n_) + 2)), (vget img l ((placeOf 8 gw gi gb n_) + 3)), (vget img l (((placeOf 8 gw gi gb n_) + 4) + 0)), (vget img l (((placeOf 8 gw gi gb n_) + 4) + 1)), (vget img l (((placeOf 8 gw gi gb n_) + 4) + 2)), (vget img l (((placeOf 8 gw gi gb n_) + 4) + 3)), (vget img l ((placeOf 8 gw gi gb n_) + 8)), (vget img l ((placeOf 8 gw gi gb n_) + 9))⟩ : Nd) = ndAt img l (ifind (img.length : Int) gw gi gb n_).1 := by first | (exfalso; omega) | (rw [hrg.2.2 (by assumption)]; simp only [ndAt, Int.add_zero, Int.add_assoc, Int.reduceAdd])
  have e_ : igetM img l gw gi gb n_ = (Nd.zero, 4) := by first | (exfalso; omega) | (simp only [igetM]; rw [if_pos (by assumption), ← en_]; exact if_neg (by assumption))
  have hs100 := St.tk0 hs99
  refine ret_of (.tuple #[(.agg #[(zu 0), (zu 0), (zu 0), (zu 0), (zu 0), (zu 0), (zu 0), (zu 0), (zu 0), (zu 0)]), (zi 4)]) (results_cell2 (ad := ⟨b7, 0, none⟩) (cs := [(zu 0), (zu 0), (zu 0), (zu 0), (zu 0), (zu 0), (zu 0), (zu 0), (zu 0), (zu 0)]) rfl (by kernel_rfl) (by kernel_rfl) (by kernel_rfl) (cells_sub (hs99.heapAt 0 rfl) rfl)) ⟨_, ⟨by rw [e_]; try rfl, rfl⟩, hs100⟩
 have h94p : RightP gw gi gb ⟨(vget img l (placeOf 8 gw gi gb n_)), (vget img l ((placeOf 8 gw gi gb n_) + 1)), (vget img l ((placeOf 8 gw gi gb n_) + 2)), (vget img l ((placeOf 8 gw gi gb n_) + 3)), (vget img l (((placeOf 8 gw gi gb n_) + 4) + 0)), (vget img l (((placeOf 8 gw gi gb n_) + 4) + 1)), (vget img l (((placeOf 8 gw gi gb n_) + 4) + 2)), (vget img l (((placeOf 8 gw gi gb n_) + 4) + 3)), (vget img l ((placeOf 8 gw gi gb n_) + 8)), (vget img l ((placeOf 8 gw gi gb n_) + 9))⟩ := of_decide_eq_true (bnot_false h94)
 refine W.skip ?_
 refine hK89 _ _ ?_
 refine W.sr fun K101 hK101 => ?_
 refine zG ⟨b45, 0, none⟩ [(zu (vget img l (placeOf 8 gw gi gb n_))), (zu (vget img l ((placeOf 8 gw gi gb n_) + 1))), (zu (vget img l ((placeOf 8 gw gi gb n_) + 2))), (zu (vget img l ((placeOf 8 gw gi gb n_) + 3))), (zu (vget img l (((placeOf 8 gw gi gb n_) + 4) + 0))), (zu (vget img l (((placeOf 8 gw gi gb n_) + 4) + 1))), (zu (vget img l (((placeOf 8 gw gi gb n_) + 4) + 2))), (zu (vget img l (((placeOf 8 gw gi gb n_) + 4) + 3))), (zu (vget img l ((placeOf 8 gw gi gb n_) + 8))), (zu (vget img l ((placeOf 8 gw gi gb n_) + 9)))] (cells_sub (hs93.heapAt 0 rfl) rfl) ?_
 have hs104 := St.f1 hs93
 refine zT 0 [(zu (vget img l (placeOf 8 gw gi gb n_))), (zu (vget img l ((placeOf 8 gw gi gb n_) + 1))), (zu (vget img l ((placeOf 8 gw gi gb n_) + 2))), (zu (vget img l ((placeOf 8 gw gi gb n_) + 3))), (zu (vget img l (((placeOf 8 gw gi gb n_) + 4) + 0))), (zu (vget img l (((placeOf 8 gw gi gb n_) + 4) + 1))), (zu (vget img l (((placeOf 8 gw gi gb n_) + 4) + 2))), (zu (vget img l (((placeOf 8 gw gi gb n_) + 4) + 3))), (zu (vget img l ((placeOf 8 gw gi gb n_) + 8))), (zu (vget img l ((placeOf 8 gw gi gb n_) + 9)))] [(zu (vget img l (placeOf 8 gw gi gb n_))), (zu (vget img l ((placeOf 8 gw gi gb n_) + 1))), (zu (vget img l ((placeOf 8 gw gi gb n_) + 2))), (zu (vget img l ((placeOf 8 gw gi gb n_) + 3))), (zu (vget img l (((placeOf 8 gw gi gb n_) + 4) + 0))), (zu (vget img l (((placeOf 8 gw gi gb n_) + 4) + 1))), (zu (vget img l (((placeOf 8 gw gi gb n_) + 4) + 2))), (zu (vget img l (((placeOf 8 gw gi gb n_) + 4) + 3))), (zu (vget img l ((placeOf 8 gw gi gb n_) + 8))), (zu (vget img l ((placeOf 8 gw gi gb n_) + 9)))] hs104 fun w102 hs105 => ?_
 refine zE 1 (hK101 _ _ ?_)
 refine W.ret ?_
 have en_ : (⟨(vget img l (placeOf 8 gw gi gb n_)), (vget img l ((placeOf 8 gw gi gb n_) + 1)), (vget img l ((placeOf 8 gw gi gb n_) + 2)), (vget img l ((placeOf 8 gw gi gb n_) + 3)), (vget img l (((placeOf 8 gw gi gb n_) + 4) + 0)), (vget img l (((placeOf 8 gw gi gb n_) + 4) + 1)), (vget img l (((placeOf 8 gw gi gb n_) + 4) + 2)), (vget img l (((placeOf 8 gw gi gb n_) + 4) + 3)), (vget img l ((placeOf 8 gw gi gb n_) + 8)), (vget img l ((placeOf 8 gw gi gb n_) + 9))⟩ : Nd) = ndAt img l (ifind (img.length : Int) gw gi gb n_).1 := by first | (exfalso; omega) | (rw [hrg.2.2 (by assumption)]; simp only [ndAt, Int.add_zero, Int.add_assoc, Int.reduceAdd])
 have e_ : igetM img l gw gi gb n_ = (⟨(vget img l (placeOf 8 gw gi gb n_)), (vget img l ((placeOf 8 gw gi gb n_) + 1)), (vget img l ((placeOf 8 gw gi gb n_) + 2)), (vget img l ((placeOf 8 gw gi gb n_) + 3)), (vget img l (((placeOf 8 gw gi gb n_) + 4) + 0)), (vget img l (((placeOf 8 gw gi gb n_) + 4) + 1)), (vget img l (((placeOf 8 gw gi gb n_) + 4) + 2)), (vget img l (((placeOf 8 gw gi gb n_) + 4) + 3)), (vget img l ((placeOf 8 gw gi gb n_) + 8)), (vget img l ((placeOf 8 gw gi gb n_) + 9))⟩, 0) := by first | (exfalso; omega) | (simp only [igetM]; rw [if_pos (by assumption), ← en_]; exact if_pos (by assumption))
 have hs106 := St.tk0 hs105
 refine ret_of (.tuple #[(.agg #[(zu (vget img l (placeOf 8 gw gi gb n_))), (zu (vget img l ((placeOf 8 gw gi gb n_) + 1))), (zu (vget img l ((placeOf 8 gw gi gb n_) + 2))), (zu (vget img l ((placeOf 8 gw gi gb n_) + 3))), (zu (vget img l (((placeOf 8 gw gi gb n_) + 4) + 0))), (zu (vget img l (((placeOf 8 gw gi gb n_) + 4) + 1))), (zu (vget img l (((placeOf 8 gw gi gb n_) + 4) + 2))), (zu (vget img l (((placeOf 8 gw gi gb n_) + 4) + 3))), (zu (vget img l ((placeOf 8 gw gi gb n_) + 8))), (zu (vget img l ((placeOf 8 gw gi gb n_) + 9)))]), (zi 0)]) (results_cell2 (ad := ⟨b7, 0, none⟩) (cs := [(zu (vget img l (placeOf 8 gw gi gb n_))), (zu (vget img l ((placeOf 8 gw gi gb n_) + 1))), (zu (vget img l ((placeOf 8 gw gi gb n_) + 2))), (zu (vget img l ((placeOf 8 gw gi gb n_) + 3))), (zu (vget img l (((placeOf 8 gw gi gb n_) + 4) + 0))), (zu (vget img l (((placeOf 8 gw gi gb n_) + 4) + 1))), (zu (vget img l (((placeOf 8 gw gi gb n_) + 4) + 2))), (zu (vget img l (((placeOf 8 gw gi gb n_) + 4) + 3))), (zu (vget img l ((placeOf 8 gw gi gb n_) + 8))), (zu (vget img l ((placeOf 8 gw gi gb n_) + 9)))]) rfl (by kernel_rfl) (by kernel_rfl) (by kernel_rfl) (cells_sub (hs105.heapAt 0 rfl) rfl)) ⟨_, ⟨by rw [e_]; try rfl, rfl⟩, hs106⟩
end Go.Proofs.YtmmclabkkigiaaaGreat

set_option maxRecDepth 20000
set_option maxHeartbeats 2000000
namespace Go.Proofs.YtmmclabkkigiaaaGreat
open Go Go.RowKit
def rword13_M (img : List Int) (l : List (Int × Int)) (gw : Int) (gi : Int) (gb : Int) (n_ : Int) (k_ : Int) : Option (Int) :=
 (some (placeOf 8 gw gi gb n_)).bind fun r4 =>
if k_ < 4 then (need (-9223372036854775808 ≤ (r4 + 4) ∧ (r4 + 4) ≤ 9223372036854775807) <|
need (-9223372036854775808 ≤ ((r4 + 4) + k_) ∧ ((r4 + 4) + k_) ≤ 9223372036854775807) <|
some ((r4 + 4) + k_)) else (need (-9223372036854775808 ≤ (r4 + 8) ∧ (r4 + 8) ≤ 9223372036854775807) <|
if (vget img l (r4 + 8)) = 0 then (some (-1)) else (need (-9223372036854775808 ≤ (vget img l (r4 + 8)) ∧ (vget img l (r4 + 8)) ≤ 9223372036854775807) <|
need (-9223372036854775808 ≤ ((placeOf 9 gw gi gb (vget img l (r4 + 8))) + k_) ∧ ((placeOf 9 gw gi gb (vget img l (r4 + 8))) + k_) ≤ 9223372036854775807) <|
need (-9223372036854775808 ≤ (((placeOf 9 gw gi gb (vget img l (r4 + 8))) + k_) - 4) ∧ (((placeOf 9 gw gi gb (vget img l (r4 + 8))) + k_) - 4) ≤ 9223372036854775807) <|
(some (((placeOf 9 gw gi gb (vget img l (r4 + 8))) + k_) - 4)).bind fun r33 =>
some r33))
theorem rword13_walk {img : List Int} {l : List (Int × Int)} {gw : Int} {gi : Int} {gb : Int} {n_ : Int} {k_ : Int} {mb vb : Nat} {r : Int} (B : Nat) (w : World) (hmb : w.heap[mb]? = some (.cells [(zp vb), (zi gw), (zi gi), (zi gb), (zi n_)].toArray 123 (0, 0))) (hv : RefAt (ptr vb) img l w) (hm : rword13_M img l gw gi gb n_ k_ = some r) : Spec Tryz.prog 85 #[(zp mb), (zi k_)] B w [] (fun v H' => v = (zi r) ∧ H' = []) := by
 refine spec_Q Tryz.func85 rfl fun hs => ?_
 unfold rword13_M at hm
 refine W.sr fun K1 hK1 => ?_
 refine zE 1 (hK1 _ _ ?_)
 refine W.seq fun K2 hK2 => ?_
 have hs3 := hs.drew
 refine W.regionD [(0, 0), (1, 1), (2, 2), (4, 4), (0, 0), (16, 16), (32, 32), (64, 64), (136, 136), (511, 256)] (fun w_ => St B w [] w_ []) (by kernel_rfl) hs3 ?_
 refine zA (zp mb) 0 hs3 ?_
 refine zA (zp mb) 1 hs3 ?_
 refine zA (.pointer (some ⟨mb, 1, none⟩)) 2 hs3 ?_
 refine any_R 3 (by kernel_rfl) (fun _ hS_ => runs_loadAgg (ad := ⟨mb, 1, none⟩) (cs := [(zi gw), (zi gi), (zi gb)]) (by kernel_rfl) (cells_sub (hS_.old hmb) rfl)) hs3 ?_
 refine zA (zp mb) 4 hs3 ?_
 refine zA (zp mb) 5 hs3 ?_
 refine zA (.pointer (some ⟨mb, 4, none⟩)) 6 hs3 ?_
 refine zB 7 ⟨mb, 4, none⟩ (zi n_) (fun _ hS_ => (cell_of_blk (hS_.old hmb) rfl)) hs3 ?_
 refine any_step 8 (by kernel_rfl) (by kernel_rfl) ?_
 obtain ⟨r4, h5, hm⟩ := bind_some hm
 replace h5 := some_inj h5
 refine ops_call0 hs3 (by kernel_rfl) (rinodeat_spec (gw := gw) (gi := gi) (gb := gb) (n_ := n_) B _) ?_
 rintro _ _ w6 ⟨hv8, hH9⟩ hs7
 rw [h5] at hv8
 try rw [h5] at hH9
 subst hv8 hH9
 have hs10 := St.ap0 hs7
 refine ops_done (by kernel_rfl) ⟨hs10, ?_⟩
 refine zA (zi r4) 9 hs10 ?_
 refine any_done (by kernel_rfl) ?_
 refine hK2 _ _ ?_
 refine W.seq fun K11 hK11 => ?_
 refine W.sr fun K12 hK12 => ?_
 refine zE 2 (hK12 _ _ ?_)
 refine W.cond (decide (k_ < 4)) (by kernel_rfl) (fun h13 => ?_) (fun h13 => ?_)
 ·
  obtain ⟨h13p, hm⟩ := iY hm h13
  refine W.sr fun K14 hK14 => ?_
  refine zR 1 ?_
  obtain ⟨h15, hm⟩ := need_some hm
  refine zI _ (wrap_i64 h15.1 h15.2) ?_
  refine zR 1 ?_
  obtain ⟨h16, hm⟩ := need_some hm
  refine zI _ (wrap_i64 h16.1 h16.2) ?_
  refine zE 1 (hK14 _ _ ?_)
  refine W.ret (ret_seq ?_)
  obtain rfl := some_inj hm
  refine ret_of (zi ((r4 + 4) + k_)) (by kernel_rfl) ⟨_, ⟨rfl, rfl⟩, hs10⟩
 obtain ⟨h13p, hm⟩ := iN hm h13
 refine W.skip ?_
 refine hK11 _ _ ?_
 refine W.sr fun K17 hK17 => ?_
 refine zR 3 ?_
 refine zL ⟨mb, 0, none⟩ (zp vb) (cell_of_blk (hs10.old hmb) rfl) ?_
 refine zR 1 ?_
 obtain ⟨h18, hm⟩ := need_some hm
 refine zI _ (wrap_i64 h18.1 h18.2) ?_
 refine zC00 hs10 (rget_spec (at_ := (r4 + 8)) (hv := (refAt_old hs10 hv)) B _) fun w19 hs21 => ?_
 refine zE 1 (hK17 _ _ ?_)
 refine W.seq fun K22 hK22 => ?_
 refine W.sr fun K23 hK23 => ?_
 refine zE 2 (hK23 _ _ ?_)
 refine W.cond (decide ((vget img l (r4 + 8)) = 0)) (by kernel_rfl) (fun h24 => ?_) (fun h24 => ?_)
 ·
  obtain ⟨h24p, hm⟩ := iY hm h24
  refine W.sr fun K25 hK25 => ?_
  refine zE 1 (hK25 _ _ ?_)
  refine W.ret (ret_seq ?_)
  obtain rfl := some_inj hm
  refine ret_of (zi (-1)) (by kernel_rfl) ⟨_, ⟨rfl, rfl⟩, hs21⟩
 obtain ⟨h24p, hm⟩ := iN hm h24
 refine W.skip ?_
 refine hK22 _ _ ?_
 refine W.sr fun K26 hK26 => ?_
 refine zR 3 ?_
 refine zG ⟨mb, 1, none⟩ [(zi gw), (zi gi), (zi gb)] (cells_sub (hs21.old hmb) rfl) ?_
 refine zR 1 ?_
 obtain ⟨h27, hm⟩ := need_some hm
 refine zI _ (wrap_i64 h27.1 h27.2) ?_
 refine zC00 hs21 (rblockat_spec (gw := gw) (gi := gi) (gb := gb) (n_ := (vget img l (r4 + 8))) B _) fun w28 hs30 => ?_
 refine zR 1 ?_
 obtain ⟨h31, hm⟩ := need_some hm
 refine zI _ (wrap_i64 h31.1 h31.2) ?_
 obtain ⟨h32, hm⟩ := need_some hm
 refine zI _ (wrap_i64 h32.1 h32.2) ?_
 refine zR 1 ?_
 obtain ⟨r33, h34, hm⟩ := bind_some hm
 replace h34 := some_inj h34
 refine ops_set 4 (v := .int .i64 r33) (Eq.trans (by kernel_rfl) (congrArg (Value.int .i64) h34)) ?_
 refine zD (hK26 _ _ ?_)
 refine W.ret ?_
 obtain rfl := some_inj hm
 refine ret_of (zi r33) (by kernel_rfl) ⟨_, ⟨rfl, rfl⟩, hs30⟩
end Go.Proofs.YtmmclabkkigiaaaGreat

set_option maxRecDepth 20000
set_option maxHeartbeats 4000000
namespace Go.Proofs.YtmmclabkkigiaaaGreat
open Go Go.RowKit
def rtaken13_M (img : List Int) (l : List (Int × Int)) (gw : Int) (gi : Int) (gb : Int) (at_ : Int) : Option (Int × Int × List (Int × Int)) :=
 need ((img.length : Int) ≤ 1000000000000) <|
if May gw gi gb ∧ wordsOf gw gi gb ≤ (img.length : Int) then ((rtakeb_M img l gw gi gb (placeOf 7 gw gi gb 0)).bind fun r18 =>
if r18.2.1 = 0 then (if r18.1 = 0 then (some (0, 4, r18.2.2)) else (need (0 ≤ r18.1 ∧ r18.1 ≤ 18446744073709551615) <|
(some ((vwrite img r18.2.2 at_ r18.1).1)).bind fun r43 =>
if r43 = 0 then (some (r18.1, 0, (vwrite img r18.2.2 at_ r18.1).2)) else (some (0, r43, (vwrite img r18.2.2 at_ r18.1).2)))) else (some (0, r18.2.1, r18.2.2))) else (if (if May gw gi gb then (8 : Int) else 1) = 0 then (none) else ((some (if May gw gi gb then (8 : Int) else 1)).bind fun r65 =>
some (0, r65, l)))
theorem rtaken13_walk {img : List Int} {l : List (Int × Int)} {gw : Int} {gi : Int} {gb : Int} {n_ : Int} {at_ : Int} {mb vb : Nat} {r : Int × Int × List (Int × Int)} (B : Nat) (w : World) (hm : rtaken13_M img l gw gi gb at_ = some r) : Spec Tryz.prog 87 #[(zp mb), (zi at_)] B w [zb mb 123 [(zp vb), (zi gw), (zi gi), (zi gb), (zi n_)], refA (ptr vb) img l] (fun v H' => v = (.tuple #[(zi r.1), (zi r.2.1)]) ∧ H' = [zb mb 123 [(zp vb), (zi gw), (zi gi), (zi gb), (zi n_)], refA (ptr vb) img r.2.2]) := by
 refine spec_W Tryz.func87 rfl fun l0 hs => ?_
 unfold rtaken13_M at hm
 refine W.sr fun K1 hK1 => ?_
 refine zE 2 (hK1 _ _ ?_)
 refine W.seq fun K2 hK2 => ?_
 have hs3 := hs.drew
 refine W.regionD [(0, 0), (1, 1), (2, 2), (4, 4), (0, 0), (16, 16), (32, 32), (64, 64), (136, 136), (256, 256), (512, 512), (512, 512), (2047, 1024), (8191, 2048)] (fun w_ => St B w l0 w_ [zb mb 123 [(zp vb), (zi gw), (zi gi), (zi gb), (zi n_)], refA (ptr vb) img l]) (by kernel_rfl) hs3 ?_
 refine zA (zp mb) 0 hs3 ?_
 refine zA (zp mb) 1 hs3 ?_
 refine zA (zp mb) 2 hs3 ?_
 refine zB 3 ⟨mb, 0, none⟩ (zp vb) (fun _ hS_ => (hS_.cellAt 0 rfl rfl)) hs3 ?_
 refine zA (zp mb) 4 hs3 ?_
 refine zA (zp mb) 5 hs3 ?_
 refine zA (.pointer (some ⟨mb, 1, none⟩)) 6 hs3 ?_
 refine any_R 7 (by kernel_rfl) (fun _ hS_ => runs_loadAgg (ad := ⟨mb, 1, none⟩) (cs := [(zi gw), (zi gi), (zi gb)]) (by kernel_rfl) (cells_sub (hS_.heapAt 0 rfl) rfl)) hs3 ?_
 refine any_step 8 (by kernel_rfl) (by kernel_rfl) ?_
 obtain ⟨h4, hm⟩ := need_some hm
 rcases Bool.eq_false_or_eq_true (decide (May gw gi gb ∧ wordsOf gw gi gb ≤ (img.length : Int))) with h5 | h5
 ·
  obtain ⟨h5p, hm⟩ := iY hm h5
  refine ops_call0 hs3 (by kernel_rfl) (rnew_ok (gw := gw) (gi := gi) (gb := gb) (hv := (hs3.entAt 1 rfl refA_at)) (hz := h4) (hP := h5p) B _) ?_
  rintro _ _ w9 ⟨b6, b7, b8, rfl, rfl⟩ hs10
  have hs11 := St.ap3 hs10
  have hs12 := St.f4 hs11
  have hs13 := St.f4 hs12
  have hs14 := St.tk2 hs13
  refine ops_done (by kernel_rfl) ⟨hs14, ?_⟩
  refine zA (.tuple #[(zp b6), (zi 0)]) 9 hs14 ?_
  refine zA (zp b6) 10 hs14 ?_
  refine zA (zi 0) 11 hs14 ?_
  refine zA (zp b6) 12 hs14 ?_
  refine zA (zi 0) 13 hs14 ?_
  refine any_done (by kernel_rfl) ?_
  refine hK2 _ _ ?_
  refine W.seq fun K15 hK15 => ?_
  refine W.sr fun K16 hK16 => ?_
  refine zE 2 (hK16 _ _ ?_)
  refine W.cond_false false (by kernel_rfl) rfl ?_
  refine W.skip ?_
  refine hK15 _ _ ?_
  refine W.sr fun K17 hK17 => ?_
  refine zR 1 ?_
  obtain ⟨r18, h19, hm⟩ := bind_some hm
  have hs20 := St.f4 hs11
  have hs21 := St.f3 hs20
  have hs22 := St.f3 hs21
  have hs23 := St.f3 hs22
  refine ops_call4 hs23 (by kernel_rfl) (rtakeb_walk (ab := b6) (ib := b7) (bb := b8) (vb := vb) (img := img) (l := l) (gw := gw) (gi := gi) (gb := gb) (ia := (placeOf 6 gw gi gb 0)) (ba := (placeOf 7 gw gi gb 0)) (hm := h19) B _) ?_
  rintro _ _ w24 ⟨rfl, rfl⟩ hs25
  have hs26 := St.ap4 hs25
  refine zE 5 (hK17 _ _ ?_)
  refine W.seq fun K27 hK27 => ?_
  refine W.sr fun K28 hK28 => ?_
  refine zE 2 (hK28 _ _ ?_)
  refine W.cond (!decide (r18.2.1 = 0)) (by kernel_rfl) (fun h29 => ?_) (fun h29 => ?_)
  rotate_left
  ·
   have h29p : r18.2.1 = 0 := of_decide_eq_true (bnot_false h29)
   replace hm := ite_yes hm h29p
   refine W.skip ?_
   refine hK27 _ _ ?_
   refine W.seq fun K30 hK30 => ?_
   refine W.sr fun K31 hK31 => ?_
   refine zE 2 (hK31 _ _ ?_)
   refine W.cond (decide (r18.1 = 0)) (by kernel_rfl) (fun h32 => ?_) (fun h32 => ?_)
   ·
    obtain ⟨h32p, hm⟩ := iY hm h32
    refine W.sr fun K33 hK33 => ?_
    refine zE 2 (hK33 _ _ ?_)
    refine W.ret (ret_seq ?_)
    obtain rfl := some_inj hm
    have hs34 := St.f3 hs26
    have hs35 := St.f4 hs34
    have hs36 := St.tk2 hs35
    refine ret_of (.tuple #[(zi 0), (zi 4)]) (by kernel_rfl) ⟨_, ⟨rfl, rfl⟩, hs36⟩
   obtain ⟨h32p, hm⟩ := iN hm h32
   refine W.skip ?_
   refine hK30 _ _ ?_
   refine W.sr fun K37 hK37 => ?_
   refine zR 3 ?_
   refine zL ⟨mb, 0, none⟩ (zp vb) (hs26.cellAt 4 rfl rfl) ?_
   refine zR 2 ?_
   obtain ⟨h38, hm⟩ := need_some hm
   refine zI _ (wrap_u64 h38.1 (Int.lt_of_le_of_lt h38.2 (by decide))) ?_
   have hs39 := St.f3 hs26
   refine zC11 hs39 (rset_spec (b := vb) (img := img) (l := r18.2.2) (at_ := at_) (x_ := r18.1) B _) fun w40 hs42 => ?_
   refine zR 1 ?_
   obtain ⟨r43, h44, hm⟩ := bind_some hm
   replace h44 := some_inj h44
   refine ops_set 7 (v := .int .i64 r43) (Eq.trans (by kernel_rfl) (congrArg (Value.int .i64) h44)) ?_
   refine zD (hK37 _ _ ?_)
   refine W.seq fun K45 hK45 => ?_
   refine W.sr fun K46 hK46 => ?_
   refine zE 2 (hK46 _ _ ?_)
   refine W.cond (!decide (r43 = 0)) (by kernel_rfl) (fun h47 => ?_) (fun h47 => ?_)
   rotate_left
   ·
    have h47p : r43 = 0 := of_decide_eq_true (bnot_false h47)
    replace hm := ite_yes hm h47p
    refine W.skip ?_
    refine hK45 _ _ ?_
    refine W.sr fun K48 hK48 => ?_
    refine zE 3 (hK48 _ _ ?_)
    refine W.ret ?_
    obtain rfl := some_inj hm
    have hs49 := St.f4 hs42
    have hs50 := St.tk2 hs49
    refine ret_of (.tuple #[(zi r18.1), (zi 0)]) (by kernel_rfl) ⟨_, ⟨rfl, rfl⟩, hs50⟩
   have h47p : ¬ (r43 = 0) := of_decide_eq_false (bnot_true h47)
   replace hm := ite_no hm h47p
   refine W.sr fun K51 hK51 => ?_
   refine zE 3 (hK51 _ _ ?_)
   refine W.ret (ret_seq ?_)
   obtain rfl := some_inj hm
   have hs52 := St.f4 hs42
   have hs53 := St.tk2 hs52
   refine ret_of (.tuple #[(zi 0), (zi r43)]) (by kernel_rfl) ⟨_, ⟨rfl, rfl⟩, hs53⟩
  have h29p : ¬ (r18.2.1 = 0) := of_decide_eq_false (bnot_true h29)
  replace hm := ite_no hm h29p
  refine W.sr fun K54 hK54 => ?_
  refine zE 3 (hK54 _ _ ?_)
  refine W.ret (ret_seq ?_)
  obtain rfl := some_inj hm
  have hs55 := St.f3 hs26
  have hs56 := St.f4 hs55
  have hs57 := St.tk2 hs56
  refine ret_of (.tuple #[(zi 0), (zi r18.2.1)]) (by kernel_rfl) ⟨_, ⟨rfl, rfl⟩, hs57⟩
 obtain ⟨h5p, hm⟩ := iN hm h5
 refine zC00 hs3 (rnew_err (gw := gw) (gi := gi) (gb := gb) (hv := (hs3.entAt 1 rfl refA_at)) (hz := h4) (hN := h5p) B _) fun w58 hs60 => ?_
 refine ops_done (by kernel_rfl) ⟨hs60, ?_⟩
 refine zA (.tuple #[(.pointer none), (zi (if May gw gi gb then (8 : Int) else 1))]) 9 hs60 ?_
 refine zA (.pointer none) 10 hs60 ?_
 refine zA (zi (if May gw gi gb then (8 : Int) else 1)) 11 hs60 ?_
 refine zA (.pointer none) 12 hs60 ?_
 refine zA (zi (if May gw gi gb then (8 : Int) else 1)) 13 hs60 ?_
 refine any_done (by kernel_rfl) ?_
 refine hK2 _ _ ?_
 refine W.seq fun K61 hK61 => ?_
 refine W.sr fun K62 hK62 => ?_
 refine zE 2 (hK62 _ _ ?_)
 refine W.cond (!decide ((if May gw gi gb then (8 : Int) else 1) = 0)) (by kernel_rfl) (fun h63 => ?_) (fun h63 => ?_)
 rotate_left
 ·
  have h63p : (if May gw gi gb then (8 : Int) else 1) = 0 := of_decide_eq_true (bnot_false h63)
  exact absurd h63p (show ¬ ((if May gw gi gb then (8 : Int) else 1) = 0) by split <;> decide)
 have h63p : ¬ ((if May gw gi gb then (8 : Int) else 1) = 0) := of_decide_eq_false (bnot_true h63)
 replace hm := ite_no hm h63p
 refine W.sr fun K64 hK64 => ?_
 refine zR 3 ?_
 obtain ⟨r65, h66, hm⟩ := bind_some hm
 replace h66 := some_inj h66
 refine ops_set 5 (v := .int .i64 r65) (Eq.trans (by kernel_rfl) (congrArg (Value.int .i64) h66)) ?_
 refine zD (hK64 _ _ ?_)
 refine W.ret (ret_seq ?_)
 obtain rfl := some_inj hm
 refine ret_of (.tuple #[(zi 0), (zi r65)]) (by kernel_rfl) ⟨_, ⟨rfl, rfl⟩, hs60⟩
end Go.Proofs.YtmmclabkkigiaaaGreat

set_option maxRecDepth 20000
set_option maxHeartbeats 2000000
namespace Go.Proofs.YtmmclabkkigiaaaGreat
open Go Go.RowKit
def rat13_J1 (img : List Int) (l : List (Int × Int)) (gw : Int) (gi : Int) (gb : Int) (n_ : Int) (k_ : Int) (p8 : Int) : Option (Int × Int) :=
 if p8 = 0 then ((rword13_M img l gw gi gb n_ k_).bind fun r15 =>
if r15 < 0 then (some (0, 0)) else (need (0 ≤ gb ∧ gb ≤ 18446744073709551615) <|
if (vget img l r15) ≥ gb then (some (0, 4)) else (need (-9223372036854775808 ≤ (vget img l r15) ∧ (vget img l r15) ≤ 9223372036854775807) <|
some ((vget img l r15), 0)))) else (some (0, p8))
def rat13_M (img : List Int) (l : List (Int × Int)) (gw : Int) (gi : Int) (gb : Int) (n_ : Int) (k_ : Int) : Option (Int × Int) :=
 if k_ < 0 then (some (0, 1)) else (if k_ ≥ 12 then (some (0, 1)) else ((some (igetM img l gw gi gb n_)).bind fun r37 =>
rat13_J1 img l gw gi gb n_ k_ r37.2))
theorem rat13_walk {img : List Int} {l : List (Int × Int)} {gw : Int} {gi : Int} {gb : Int} {n_ : Int} {k_ : Int} {mb vb : Nat} {r : Int × Int} (B : Nat) (w : World) (hmb : w.heap[mb]? = some (.cells [(zp vb), (zi gw), (zi gi), (zi gb), (zi n_)].toArray 123 (0, 0))) (hv : RefAt (ptr vb) img l w) (hm : rat13_M img l gw gi gb n_ k_ = some r) : Spec Tryz.prog 52 #[(zp mb), (zi k_)] B w [] (fun v H' => v = (.tuple #[(zi r.1), (zi r.2)]) ∧ H' = []) := by
 refine spec_Q Tryz.func52 rfl fun hs => ?_
 unfold rat13_M at hm
 refine W.sr fun K1 hK1 => ?_
 refine zE 2 (hK1 _ _ ?_)
 refine W.seq fun K2 hK2 => ?_
 refine W.sr fun K3 hK3 => ?_
 refine zR 3 ?_
 rcases Bool.eq_false_or_eq_true (decide (k_ < 0)) with h4 | h4
 ·
  obtain ⟨h4p, hm⟩ := iY hm h4
  refine zS 12 h4 ?_
  refine zS 11 h4 ?_
  refine zE 3 (hK3 _ _ ?_)
  refine W.cond_true true (by kernel_rfl) rfl ?_
  refine W.sr fun K5 hK5 => ?_
  refine zE 2 (hK5 _ _ ?_)
  refine W.ret (ret_seq ?_)
  obtain rfl := some_inj hm
  refine ret_of (.tuple #[(zi 0), (zi 1)]) (by kernel_rfl) ⟨_, ⟨rfl, rfl⟩, hs⟩
 obtain ⟨h4p, hm⟩ := iN hm h4
 refine zS 12 h4 ?_
 refine zS 11 h4 ?_
 refine zE 3 (hK3 _ _ ?_)
 refine W.cond (decide (k_ ≥ 12)) (by kernel_rfl) (fun h6 => ?_) (fun h6 => ?_)
 ·
  obtain ⟨h6p, hm⟩ := iY hm h6
  refine W.sr fun K7 hK7 => ?_
  refine zE 2 (hK7 _ _ ?_)
  refine W.ret (ret_seq ?_)
  obtain rfl := some_inj hm
  refine ret_of (.tuple #[(zi 0), (zi 1)]) (by kernel_rfl) ⟨_, ⟨rfl, rfl⟩, hs⟩
 obtain ⟨h6p, hm⟩ := iN hm h6
 refine W.skip ?_
 refine hK2 _ _ ?_
 refine W.seq_join (fun s_ w_ => ∃ (p8 : Int), (∃ us, s_ = slots 56 [(0, (zp mb)), (1, (zi k_)), (7, (zi p8))] us) ∧ St B w [] w_ [] ∧ rat13_J1 img l gw gi gb n_ k_ p8 = some r) ?_ ?_
 ·
  rintro _ w9 ⟨p8, ⟨us, rfl⟩, hs10, hm⟩
  unfold rat13_J1 at hm
  refine W.seq fun K11 hK11 => ?_
  refine W.sr fun K12 hK12 => ?_
  refine zE 2 (hK12 _ _ ?_)
  refine W.cond (!decide (p8 = 0)) (by kernel_rfl) (fun h13 => ?_) (fun h13 => ?_)
  rotate_left
  ·
   have h13p : p8 = 0 := of_decide_eq_true (bnot_false h13)
   replace hm := ite_yes hm h13p
   refine W.skip ?_
   refine hK11 _ _ ?_
   refine W.sr fun K14 hK14 => ?_
   refine zR 2 ?_
   obtain ⟨r15, h16, hm⟩ := bind_some hm
   refine zC00 hs10 (rword13_walk (k_ := k_) (img := img) (l := l) (gw := gw) (gi := gi) (gb := gb) (n_ := n_) (hmb := (hs10.old hmb)) (hv := (refAt_old hs10 hv)) (hm := h16) B _) fun w17 hs19 => ?_
   refine zE 1 (hK14 _ _ ?_)
   refine W.seq fun K20 hK20 => ?_
   refine W.sr fun K21 hK21 => ?_
   refine zE 2 (hK21 _ _ ?_)
   refine W.cond (decide (r15 < 0)) (by kernel_rfl) (fun h22 => ?_) (fun h22 => ?_)
   ·
    obtain ⟨h22p, hm⟩ := iY hm h22
    refine W.sr fun K23 hK23 => ?_
    refine zE 2 (hK23 _ _ ?_)
    refine W.ret (ret_seq ?_)
    obtain rfl := some_inj hm
    refine ret_of (.tuple #[(zi 0), (zi 0)]) (by kernel_rfl) ⟨_, ⟨rfl, rfl⟩, hs19⟩
   obtain ⟨h22p, hm⟩ := iN hm h22
   refine W.skip ?_
   refine hK20 _ _ ?_
   refine W.sr fun K24 hK24 => ?_
   refine zR 3 ?_
   refine zL ⟨mb, 0, none⟩ (zp vb) (cell_of_blk (hs19.old hmb) rfl) ?_
   refine zR 1 ?_
   refine zC00 hs19 (rget_spec (at_ := r15) (hv := (refAt_old hs19 hv)) B _) fun w25 hs27 => ?_
   refine zE 1 (hK24 _ _ ?_)
   refine W.seq fun K28 hK28 => ?_
   refine W.sr fun K29 hK29 => ?_
   refine zR 5 ?_
   refine zL ⟨mb, 3, none⟩ (zi gb) (cell_of_blk (hs27.old hmb) rfl) ?_
   obtain ⟨h30, hm⟩ := need_some hm
   refine zI _ (wrap_u64 h30.1 (Int.lt_of_le_of_lt h30.2 (by decide))) ?_
   refine zE 1 (hK29 _ _ ?_)
   refine W.cond (decide ((vget img l r15) ≥ gb)) (by kernel_rfl) (fun h31 => ?_) (fun h31 => ?_)
   ·
    obtain ⟨h31p, hm⟩ := iY hm h31
    refine W.sr fun K32 hK32 => ?_
    refine zE 2 (hK32 _ _ ?_)
    refine W.ret (ret_seq ?_)
    obtain rfl := some_inj hm
    refine ret_of (.tuple #[(zi 0), (zi 4)]) (by kernel_rfl) ⟨_, ⟨rfl, rfl⟩, hs27⟩
   obtain ⟨h31p, hm⟩ := iN hm h31
   refine W.skip ?_
   refine hK28 _ _ ?_
   refine W.sr fun K33 hK33 => ?_
   refine zR 1 ?_
   obtain ⟨h34, hm⟩ := need_some hm
   refine zI _ (wrap_i64 h34.1 h34.2) ?_
   refine zE 2 (hK33 _ _ ?_)
   refine W.ret ?_
   obtain rfl := some_inj hm
   refine ret_of (.tuple #[(zi (vget img l r15)), (zi 0)]) (by kernel_rfl) ⟨_, ⟨rfl, rfl⟩, hs27⟩
  have h13p : ¬ (p8 = 0) := of_decide_eq_false (bnot_true h13)
  replace hm := ite_no hm h13p
  refine W.sr fun K35 hK35 => ?_
  refine zE 3 (hK35 _ _ ?_)
  refine W.ret (ret_seq ?_)
  obtain rfl := some_inj hm
  refine ret_of (.tuple #[(zi 0), (zi p8)]) (by kernel_rfl) ⟨_, ⟨rfl, rfl⟩, hs10⟩
 have hs36 := hs.drew
 refine W.regionD [(0, 0), (1, 1), (2, 2), (4, 4), (0, 0), (16, 16), (32, 32), (64, 64), (0, 0), (256, 256), (512, 512), (1024, 1024), (2184, 2184), (4096, 4096), (8192, 8192), (8192, 8192), (0, 0), (98303, 81920), (262143, 32768)] (fun w_ => St B w [] w_ []) (by kernel_rfl) hs36 ?_
 refine zA (zp mb) 0 hs36 ?_
 refine zA (zp mb) 1 hs36 ?_
 refine zA (zp mb) 2 hs36 ?_
 refine zB 3 ⟨mb, 0, none⟩ (zp vb) (fun _ hS_ => (cell_of_blk (hS_.old hmb) rfl)) hs36 ?_
 refine zA (zp mb) 4 hs36 ?_
 refine zA (zp mb) 5 hs36 ?_
 refine zA (.pointer (some ⟨mb, 1, none⟩)) 6 hs36 ?_
 refine any_R 7 (by kernel_rfl) (fun _ hS_ => runs_loadAgg (ad := ⟨mb, 1, none⟩) (cs := [(zi gw), (zi gi), (zi gb)]) (by kernel_rfl) (cells_sub (hS_.old hmb) rfl)) hs36 ?_
 refine zA (zp mb) 8 hs36 ?_
 refine zA (zp mb) 9 hs36 ?_
 refine zA (.pointer (some ⟨mb, 4, none⟩)) 10 hs36 ?_
 refine zB 11 ⟨mb, 4, none⟩ (zi n_) (fun _ hS_ => (cell_of_blk (hS_.old hmb) rfl)) hs36 ?_
 refine any_step2 12 16 (by kernel_rfl) (by kernel_rfl) (by kernel_rfl) ?_ ?_
 ·
  obtain ⟨r37, h38, hm⟩ := bind_some hm
  replace h38 := some_inj h38
  refine ops_call0 hs36 (by kernel_rfl) (rg_spec (gw := gw) (gi := gi) (gb := gb) (n_ := n_) (hv := (refAt_old hs36 hv)) B _) ?_
  rintro _ _ w39 ⟨hv41, hH42⟩ hs40
  rw [h38] at hv41
  try rw [h38] at hH42
  subst hv41 hH42
  have hs43 := St.ap0 hs40
  refine ops_done (by kernel_rfl) ⟨hs43, ?_⟩
  refine zA (.tuple #[(.agg #[(zu r37.1.k), (zu r37.1.l), (zu r37.1.o), (zu r37.1.s), (zu r37.1.a), (zu r37.1.b), (zu r37.1.c), (zu r37.1.d), (zu r37.1.e), (zu r37.1.m)]), (zi r37.2)]) 13 hs43 ?_
  refine zA (.agg #[(zu r37.1.k), (zu r37.1.l), (zu r37.1.o), (zu r37.1.s), (zu r37.1.a), (zu r37.1.b), (zu r37.1.c), (zu r37.1.d), (zu r37.1.e), (zu r37.1.m)]) 14 hs43 ?_
  refine zA (zi r37.2) 15 hs43 ?_
  refine any_step 16 (by kernel_rfl) (by kernel_rfl) ?_
  refine zN [(zu 0), (zu 0), (zu 0), (zu 0), (zu 0), (zu 0), (zu 0), (zu 0), (zu 0), (zu 0)] 77 hs43 fun b46 w44 hs45 => ?_
  have hs47 := St.tk0 hs45
  refine ops_done (by kernel_rfl) ⟨hs47, ?_⟩
  refine any_step 17 (by kernel_rfl) (by kernel_rfl) ?_
  refine zT 0 [(zu r37.1.k), (zu r37.1.l), (zu r37.1.o), (zu r37.1.s), (zu r37.1.a), (zu r37.1.b), (zu r37.1.c), (zu r37.1.d), (zu r37.1.e), (zu r37.1.m)] [(zu r37.1.k), (zu r37.1.l), (zu r37.1.o), (zu r37.1.s), (zu r37.1.a), (zu r37.1.b), (zu r37.1.c), (zu r37.1.d), (zu r37.1.e), (zu r37.1.m)] hs45 fun w48 hs50 => ?_
  have hs51 := St.tk0 hs50
  refine ops_done (by kernel_rfl) ⟨hs51, ?_⟩
  refine zA (zi r37.2) 18 hs51 ?_
  refine any_done (by kernel_rfl) ?_
  have hs52 := St.tk0 hs50
  exact ⟨r37.2, slots_intro _ (by kernel_rfl), hs52, hm⟩
 refine zN [(zu 0), (zu 0), (zu 0), (zu 0), (zu 0), (zu 0), (zu 0), (zu 0), (zu 0), (zu 0)] 77 hs36 fun b55 w53 hs54 => ?_
 have hs56 := St.tk0 hs54
 refine ops_done (by kernel_rfl) ⟨hs56, ?_⟩
 refine any_step 12 (by kernel_rfl) (by kernel_rfl) ?_
 obtain ⟨r57, h58, hm⟩ := bind_some hm
 replace h58 := some_inj h58
 refine ops_call0 hs54 (by kernel_rfl) (rg_spec (gw := gw) (gi := gi) (gb := gb) (n_ := n_) (hv := (refAt_old hs54 hv)) B _) ?_
 rintro _ _ w59 ⟨hv61, hH62⟩ hs60
 rw [h58] at hv61
 try rw [h58] at hH62
 subst hv61 hH62
 have hs63 := St.ap0 hs60
 have hs64 := St.tk0 hs63
 refine ops_done (by kernel_rfl) ⟨hs64, ?_⟩
 refine zA (.tuple #[(.agg #[(zu r57.1.k), (zu r57.1.l), (zu r57.1.o), (zu r57.1.s), (zu r57.1.a), (zu r57.1.b), (zu r57.1.c), (zu r57.1.d), (zu r57.1.e), (zu r57.1.m)]), (zi r57.2)]) 13 hs64 ?_
 refine zA (.agg #[(zu r57.1.k), (zu r57.1.l), (zu r57.1.o), (zu r57.1.s), (zu r57.1.a), (zu r57.1.b), (zu r57.1.c), (zu r57.1.d), (zu r57.1.e), (zu r57.1.m)]) 14 hs64 ?_
 refine zA (zi r57.2) 15 hs64 ?_
 refine any_step 17 (by kernel_rfl) (by kernel_rfl) ?_
 refine zT 0 [(zu r57.1.k), (zu r57.1.l), (zu r57.1.o), (zu r57.1.s), (zu r57.1.a), (zu r57.1.b), (zu r57.1.c), (zu r57.1.d), (zu r57.1.e), (zu r57.1.m)] [(zu r57.1.k), (zu r57.1.l), (zu r57.1.o), (zu r57.1.s), (zu r57.1.a), (zu r57.1.b), (zu r57.1.c), (zu r57.1.d), (zu r57.1.e), (zu r57.1.m)] hs63 fun w65 hs67 => ?_
 have hs68 := St.tk0 hs67
 refine ops_done (by kernel_rfl) ⟨hs68, ?_⟩
 refine zA (zi r57.2) 18 hs68 ?_
 refine any_done (by kernel_rfl) ?_
 have hs69 := St.tk0 hs67
 exact ⟨r57.2, slots_intro _ (by kernel_rfl), hs69, hm⟩
end Go.Proofs.YtmmclabkkigiaaaGreat

set_option maxRecDepth 20000
set_option maxHeartbeats 2000000
namespace Go.Proofs.YtmmclabkkigiaaaGreat
open Go Go.RowKit
def rneed13_M (img : List Int) (l : List (Int × Int)) (gw : Int) (gi : Int) (gb : Int) (n_ : Int) (k_ : Int) : Option (Int) :=
 (rat13_M img l gw gi gb n_ k_).bind fun r3 =>
if r3.2 = 0 then (if r3.1 = 0 then ((rword13_M img l gw gi gb n_ k_).bind fun r14 =>
if r14 < 0 then (some 2) else (some 1)) else (some 0)) else (some 0)
theorem rneed13_walk {img : List Int} {l : List (Int × Int)} {gw : Int} {gi : Int} {gb : Int} {n_ : Int} {k_ : Int} {mb vb : Nat} {r : Int} (B : Nat) (w : World) (hmb : w.heap[mb]? = some (.cells [(zp vb), (zi gw), (zi gi), (zi gb), (zi n_)].toArray 123 (0, 0))) (hv : RefAt (ptr vb) img l w) (hm : rneed13_M img l gw gi gb n_ k_ = some r) : Spec Tryz.prog 55 #[(zp mb), (zi k_)] B w [] (fun v H' => v = (zi r) ∧ H' = []) := by
 refine spec_Q Tryz.func55 rfl fun hs => ?_
 unfold rneed13_M at hm
 refine W.sr fun K1 hK1 => ?_
 refine zE 1 (hK1 _ _ ?_)
 refine W.sr fun K2 hK2 => ?_
 refine zR 2 ?_
 obtain ⟨r3, h4, hm⟩ := bind_some hm
 refine zC00 hs (rat13_walk (k_ := k_) (img := img) (l := l) (gw := gw) (gi := gi) (gb := gb) (n_ := n_) (hmb := (hs.old hmb)) (hv := (refAt_old hs hv)) (hm := h4) B _) fun w5 hs7 => ?_
 refine zE 5 (hK2 _ _ ?_)
 refine W.seq fun K8 hK8 => ?_
 refine W.sr fun K9 hK9 => ?_
 refine zR 3 ?_
 rcases Bool.eq_false_or_eq_true (!decide (r3.2 = 0)) with h10 | h10
 rotate_left
 ·
  have h10p : r3.2 = 0 := of_decide_eq_true (bnot_false h10)
  replace hm := ite_yes hm h10p
  refine zS 15 h10 ?_
  refine zS 14 h10 ?_
  refine zE 3 (hK9 _ _ ?_)
  refine W.cond (!decide (r3.1 = 0)) (by kernel_rfl) (fun h11 => ?_) (fun h11 => ?_)
  rotate_left
  ·
   have h11p : r3.1 = 0 := of_decide_eq_true (bnot_false h11)
   replace hm := ite_yes hm h11p
   refine W.skip ?_
   refine hK8 _ _ ?_
   refine W.seq fun K12 hK12 => ?_
   refine W.sr fun K13 hK13 => ?_
   refine zR 2 ?_
   obtain ⟨r14, h15, hm⟩ := bind_some hm
   refine zC00 hs7 (rword13_walk (k_ := k_) (img := img) (l := l) (gw := gw) (gi := gi) (gb := gb) (n_ := n_) (hmb := (hs7.old hmb)) (hv := (refAt_old hs7 hv)) (hm := h15) B _) fun w16 hs18 => ?_
   refine zE 1 (hK13 _ _ ?_)
   refine W.cond (decide (r14 < 0)) (by kernel_rfl) (fun h19 => ?_) (fun h19 => ?_)
   ·
    obtain ⟨h19p, hm⟩ := iY hm h19
    refine W.sr fun K20 hK20 => ?_
    refine zE 1 (hK20 _ _ ?_)
    refine W.ret (ret_seq ?_)
    obtain rfl := some_inj hm
    refine ret_of (zi 2) (by kernel_rfl) ⟨_, ⟨rfl, rfl⟩, hs18⟩
   obtain ⟨h19p, hm⟩ := iN hm h19
   refine W.skip ?_
   refine hK12 _ _ ?_
   refine W.sr fun K21 hK21 => ?_
   refine zE 1 (hK21 _ _ ?_)
   refine W.ret ?_
   obtain rfl := some_inj hm
   refine ret_of (zi 1) (by kernel_rfl) ⟨_, ⟨rfl, rfl⟩, hs18⟩
  have h11p : ¬ (r3.1 = 0) := of_decide_eq_false (bnot_true h11)
  replace hm := ite_no hm h11p
  refine W.sr fun K22 hK22 => ?_
  refine zE 1 (hK22 _ _ ?_)
  refine W.ret (ret_seq ?_)
  obtain rfl := some_inj hm
  refine ret_of (zi 0) (by kernel_rfl) ⟨_, ⟨rfl, rfl⟩, hs7⟩
 have h10p : ¬ (r3.2 = 0) := of_decide_eq_false (bnot_true h10)
 replace hm := ite_no hm h10p
 refine zS 15 h10 ?_
 refine zS 14 h10 ?_
 refine zE 3 (hK9 _ _ ?_)
 refine W.cond_true true (by kernel_rfl) rfl ?_
 refine W.sr fun K23 hK23 => ?_
 refine zE 1 (hK23 _ _ ?_)
 refine W.ret (ret_seq ?_)
 obtain rfl := some_inj hm
 refine ret_of (zi 0) (by kernel_rfl) ⟨_, ⟨rfl, rfl⟩, hs7⟩
end Go.Proofs.YtmmclabkkigiaaaGreat

set_option maxRecDepth 20000
set_option maxHeartbeats 4000000
namespace Go.Proofs.YtmmclabkkigiaaaGreat
open Go Go.RowKit
def rTake13_J2 (img : List Int) (gw : Int) (gi : Int) (gb : Int) (n_ : Int) (k_ : Int) (l49 : List (Int × Int)) : Option (Int × Int × List (Int × Int)) :=
 (rword13_M img l49 gw gi gb n_ k_).bind fun r53 =>
(rtaken13_M img l49 gw gi gb r53).bind fun r58 =>
some (r58.1, r58.2.1, r58.2.2)
def rTake13_J1 (img : List Int) (l : List (Int × Int)) (gw : Int) (gi : Int) (gb : Int) (n_ : Int) (k_ : Int) (r3 : Int × Int) (p9 : Bool) : Option (Int × Int × List (Int × Int)) :=
 if p9 = true then (some (r3.1, r3.2, l)) else (need ((img.length : Int) ≤ 1000000000000) <|
if May gw gi gb ∧ wordsOf gw gi gb ≤ (img.length : Int) then ((rfree_M img l gi gb (placeOf 6 gw gi gb 0) (placeOf 7 gw gi gb 0)).bind fun r32 =>
(rneed13_M img l gw gi gb n_ k_).bind fun r39 =>
if r32.2 < r39 then (some (0, 7, l)) else ((rword13_M img l gw gi gb n_ k_).bind fun r68 =>
if r68 < 0 then ((some (placeOf 8 gw gi gb n_)).bind fun r81 =>
need (-9223372036854775808 ≤ (r81 + 8) ∧ (r81 + 8) ≤ 9223372036854775807) <|
(rtaken13_M img l gw gi gb (r81 + 8)).bind fun r94 =>
if r94.2.1 = 0 then (rTake13_J2 img gw gi gb n_ k_ r94.2.2) else (some (0, r94.2.1, r94.2.2))) else (rTake13_J2 img gw gi gb n_ k_ l))) else (if (if May gw gi gb then (8 : Int) else 1) = 0 then (none) else ((some (if May gw gi gb then (8 : Int) else 1)).bind fun r127 =>
some (0, r127, l))))
def rTake13_M (img : List Int) (l : List (Int × Int)) (gw : Int) (gi : Int) (gb : Int) (n_ : Int) (k_ : Int) : Option (Int × Int × List (Int × Int)) :=
 (rat13_M img l gw gi gb n_ k_).bind fun r3 =>
if r3.2 = 0 then (rTake13_J1 img l gw gi gb n_ k_ r3 (!decide (r3.1 = 0))) else (rTake13_J1 img l gw gi gb n_ k_ r3 true)
theorem rTake13_walk {img : List Int} {l : List (Int × Int)} {gw : Int} {gi : Int} {gb : Int} {n_ : Int} {k_ : Int} {mb vb : Nat} {r : Int × Int × List (Int × Int)} (B : Nat) (w : World) (hm : rTake13_M img l gw gi gb n_ k_ = some r) : Spec Tryz.prog 56 #[(zp mb), (zi k_)] B w [zb mb 123 [(zp vb), (zi gw), (zi gi), (zi gb), (zi n_)], refA (ptr vb) img l] (fun v H' => v = (.tuple #[(zi r.1), (zi r.2.1)]) ∧ H' = [zb mb 123 [(zp vb), (zi gw), (zi gi), (zi gb), (zi n_)], refA (ptr vb) img r.2.2]) := by
 refine spec_W Tryz.func56 rfl fun l0 hs => ?_
 unfold rTake13_M at hm
 refine W.sr fun K1 hK1 => ?_
 refine zE 2 (hK1 _ _ ?_)
 refine W.sr fun K2 hK2 => ?_
 refine zR 2 ?_
 obtain ⟨r3, h4, hm⟩ := bind_some hm
 refine zC00 hs (rat13_walk (k_ := k_) (img := img) (l := l) (gw := gw) (gi := gi) (gb := gb) (n_ := n_) (hmb := (hs.heapAt 0 rfl)) (hv := (hs.entAt 1 rfl refA_at)) (hm := h4) B _) fun w5 hs7 => ?_
 refine zE 5 (hK2 _ _ ?_)
 refine W.seq fun K8 hK8 => ?_
 refine W.seq_join (fun s_ w_ => ∃ (p9 : Bool), (∃ us, s_ = slots 79 [(0, (zp mb)), (1, (zi k_)), (6, (zi r3.1)), (7, (zi r3.2)), (22, (.bool p9))] us) ∧ St B w l0 w_ [refA (ptr vb) img l, zb mb 123 [(zp vb), (zi gw), (zi gi), (zi gb), (zi n_)]] ∧ rTake13_J1 img l gw gi gb n_ k_ r3 p9 = some r) ?_ ?_
 ·
  rintro _ w10 ⟨p9, ⟨us, rfl⟩, hs11, hm⟩
  unfold rTake13_J1 at hm
  refine W.cond p9 (by kernel_rfl) (fun h12 => ?_) (fun h12 => ?_)
  ·
   have h12p : p9 = true := h12
   replace hm := ite_yes hm h12p
   refine W.sr fun K13 hK13 => ?_
   refine zE 4 (hK13 _ _ ?_)
   refine W.ret (ret_seq ?_)
   obtain rfl := some_inj hm
   have hs14 := St.f1 hs11
   refine ret_of (.tuple #[(zi r3.1), (zi r3.2)]) (by kernel_rfl) ⟨_, ⟨rfl, rfl⟩, hs14⟩
  have h12p : ¬ (p9 = true) := ne_true_of_eq_false h12
  replace hm := ite_no hm h12p
  refine W.skip ?_
  refine hK8 _ _ ?_
  refine W.seq fun K16 hK16 => ?_
  have hs17 := hs11.drew
  refine W.regionD [(0, 0), (1, 1), (2, 2), (4, 4), (0, 0), (16, 16), (32, 32), (64, 64), (136, 136), (256, 256), (512, 512), (512, 512), (2047, 1024), (8191, 2048)] (fun w_ => St B w l0 w_ [refA (ptr vb) img l, zb mb 123 [(zp vb), (zi gw), (zi gi), (zi gb), (zi n_)]]) (by kernel_rfl) hs17 ?_
  refine zA (zp mb) 0 hs17 ?_
  refine zA (zp mb) 1 hs17 ?_
  refine zA (zp mb) 2 hs17 ?_
  refine zB 3 ⟨mb, 0, none⟩ (zp vb) (fun _ hS_ => (hS_.cellAt 1 rfl rfl)) hs17 ?_
  refine zA (zp mb) 4 hs17 ?_
  refine zA (zp mb) 5 hs17 ?_
  refine zA (.pointer (some ⟨mb, 1, none⟩)) 6 hs17 ?_
  refine any_R 7 (by kernel_rfl) (fun _ hS_ => runs_loadAgg (ad := ⟨mb, 1, none⟩) (cs := [(zi gw), (zi gi), (zi gb)]) (by kernel_rfl) (cells_sub (hS_.heapAt 1 rfl) rfl)) hs17 ?_
  refine any_step 8 (by kernel_rfl) (by kernel_rfl) ?_
  obtain ⟨h18, hm⟩ := need_some hm
  rcases Bool.eq_false_or_eq_true (decide (May gw gi gb ∧ wordsOf gw gi gb ≤ (img.length : Int))) with h19 | h19
  ·
   obtain ⟨h19p, hm⟩ := iY hm h19
   refine ops_call0 hs17 (by kernel_rfl) (rnew_ok (gw := gw) (gi := gi) (gb := gb) (hv := (hs17.entAt 0 rfl refA_at)) (hz := h18) (hP := h19p) B _) ?_
   rintro _ _ w23 ⟨b20, b21, b22, rfl, rfl⟩ hs24
   have hs25 := St.ap3 hs24
   have hs26 := St.f4 hs25
   have hs27 := St.f4 hs26
   have hs28 := St.tk2 hs27
   refine ops_done (by kernel_rfl) ⟨hs28, ?_⟩
   refine zA (.tuple #[(zp b20), (zi 0)]) 9 hs28 ?_
   refine zA (zp b20) 10 hs28 ?_
   refine zA (zi 0) 11 hs28 ?_
   refine zA (zp b20) 12 hs28 ?_
   refine zA (zi 0) 13 hs28 ?_
   refine any_done (by kernel_rfl) ?_
   refine hK16 _ _ ?_
   refine W.seq fun K29 hK29 => ?_
   refine W.sr fun K30 hK30 => ?_
   refine zE 2 (hK30 _ _ ?_)
   refine W.cond_false false (by kernel_rfl) rfl ?_
   refine W.skip ?_
   refine hK29 _ _ ?_
   refine W.sr fun K31 hK31 => ?_
   refine zR 1 ?_
   obtain ⟨r32, h33, hm⟩ := bind_some hm
   refine zC00 hs25 (rfree_walk (hab := (hs25.heapAt 0 rfl)) (hib := (hs25.heapAt 1 rfl)) (hbb := (hs25.heapAt 2 rfl)) (hv := (hs25.entAt 3 rfl refA_at)) (hm := h33) B _) fun w34 hs36 => ?_
   refine zE 5 (hK31 _ _ ?_)
   refine W.seq fun K37 hK37 => ?_
   refine W.sr fun K38 hK38 => ?_
   refine zR 3 ?_
   obtain ⟨r39, h40, hm⟩ := bind_some hm
   refine zC00 hs36 (rneed13_walk (k_ := k_) (img := img) (l := l) (gw := gw) (gi := gi) (gb := gb) (n_ := n_) (hmb := (hs36.heapAt 4 rfl)) (hv := (hs36.entAt 3 rfl refA_at)) (hm := h40) B _) fun w41 hs43 => ?_
   refine zE 1 (hK38 _ _ ?_)
   refine W.cond (decide (r32.2 < r39)) (by kernel_rfl) (fun h44 => ?_) (fun h44 => ?_)
   ·
    obtain ⟨h44p, hm⟩ := iY hm h44
    refine W.sr fun K45 hK45 => ?_
    refine zE 2 (hK45 _ _ ?_)
    refine W.ret (ret_seq ?_)
    obtain rfl := some_inj hm
    have hs46 := St.f3 hs43
    have hs47 := St.f4 hs46
    have hs48 := St.tk2 hs47
    refine ret_of (.tuple #[(zi 0), (zi 7)]) (by kernel_rfl) ⟨_, ⟨rfl, rfl⟩, hs48⟩
   obtain ⟨h44p, hm⟩ := iN hm h44
   refine W.skip ?_
   refine hK37 _ _ ?_
   refine W.seq_join (fun s_ w_ => ∃ (l49 : List (Int × Int)), (∃ us, s_ = slots 79 [(0, (zp mb)), (1, (zi k_))] us) ∧ St B w l0 w_ [refA (ptr vb) img l49, zb mb 123 [(zp vb), (zi gw), (zi gi), (zi gb), (zi n_)], zb b21 168 [(zp vb), (zi (placeOf 6 gw gi gb 0)), (zi gi)], zb b22 168 [(zp vb), (zi (placeOf 7 gw gi gb 0)), (zi gb)], zb b20 170 [(zp vb), (zi gw), (zi gi), (zi gb), (zp b21), (zp b22)]] ∧ rTake13_J2 img gw gi gb n_ k_ l49 = some r) ?_ ?_
   ·
    rintro _ w50 ⟨l49, ⟨us, rfl⟩, hs51, hm⟩
    unfold rTake13_J2 at hm
    refine W.sr fun K52 hK52 => ?_
    refine zR 3 ?_
    obtain ⟨r53, h54, hm⟩ := bind_some hm
    refine zC00 hs51 (rword13_walk (k_ := k_) (img := img) (l := l49) (gw := gw) (gi := gi) (gb := gb) (n_ := n_) (hmb := (hs51.heapAt 1 rfl)) (hv := (hs51.entAt 0 rfl refA_at)) (hm := h54) B _) fun w55 hs57 => ?_
    obtain ⟨r58, h59, hm⟩ := bind_some hm
    have hs60 := St.f1 hs57
    refine zC22 hs60 (rtaken13_walk (mb := mb) (vb := vb) (at_ := r53) (img := img) (l := l49) (gw := gw) (gi := gi) (gb := gb) (n_ := n_) (hm := h59) B _) fun w61 hs63 => ?_
    refine zE 4 (hK52 _ _ ?_)
    refine W.ret ?_
    obtain rfl := some_inj hm
    have hs64 := St.f1 hs63
    have hs65 := St.f1 hs64
    have hs66 := St.tk2 hs65
    refine ret_of (.tuple #[(zi r58.1), (zi r58.2.1)]) (by kernel_rfl) ⟨_, ⟨rfl, rfl⟩, hs66⟩
   refine W.sr fun K67 hK67 => ?_
   refine zR 2 ?_
   obtain ⟨r68, h69, hm⟩ := bind_some hm
   refine zC00 hs43 (rword13_walk (k_ := k_) (img := img) (l := l) (gw := gw) (gi := gi) (gb := gb) (n_ := n_) (hmb := (hs43.heapAt 4 rfl)) (hv := (hs43.entAt 3 rfl refA_at)) (hm := h69) B _) fun w70 hs72 => ?_
   refine zE 1 (hK67 _ _ ?_)
   refine W.cond (decide (r68 < 0)) (by kernel_rfl) (fun h73 => ?_) (fun h73 => ?_)
   ·
    obtain ⟨h73p, hm⟩ := iY hm h73
    refine W.seq fun K74 hK74 => ?_
    have hs75 := hs72.drew
    have hs76 := St.f4 hs75
    have hs77 := St.f3 hs76
    have hs78 := St.f3 hs77
    have hs79 := St.f3 hs78
    have hs80 := St.tk4 hs79
    refine W.regionD [(0, 0), (0, 0), (2, 2), (4, 4), (8, 8), (0, 0), (32, 32), (64, 64), (128, 128), (272, 272), (512, 512), (1537, 1025), (2048, 2048), (4096, 4096), (4096, 4096), (32767, 16384)] (fun w_ => St B w l0 w_ [zb b20 170 [(zp vb), (zi gw), (zi gi), (zi gb), (zp b21), (zp b22)], zb b21 168 [(zp vb), (zi (placeOf 6 gw gi gb 0)), (zi gi)], zb b22 168 [(zp vb), (zi (placeOf 7 gw gi gb 0)), (zi gb)], zb mb 123 [(zp vb), (zi gw), (zi gi), (zi gb), (zi n_)]]) (by kernel_rfl) hs80 ?_
    refine zA (zp mb) 0 hs80 ?_
    refine zA (zp mb) 1 hs80 ?_
    refine zA (zp mb) 2 hs80 ?_
    refine zA (.pointer (some ⟨mb, 1, none⟩)) 3 hs80 ?_
    refine any_R 4 (by kernel_rfl) (fun _ hS_ => runs_loadAgg (ad := ⟨mb, 1, none⟩) (cs := [(zi gw), (zi gi), (zi gb)]) (by kernel_rfl) (cells_sub (hS_.heapAt 3 rfl) rfl)) hs80 ?_
    refine zA (zp mb) 5 hs80 ?_
    refine zA (zp mb) 6 hs80 ?_
    refine zA (.pointer (some ⟨mb, 4, none⟩)) 7 hs80 ?_
    refine zB 8 ⟨mb, 4, none⟩ (zi n_) (fun _ hS_ => (hS_.cellAt 3 rfl rfl)) hs80 ?_
    refine any_step 9 (by kernel_rfl) (by kernel_rfl) ?_
    obtain ⟨r81, h82, hm⟩ := bind_some hm
    replace h82 := some_inj h82
    refine ops_call0 hs75 (by kernel_rfl) (rinodeat_spec (gw := gw) (gi := gi) (gb := gb) (n_ := n_) B _) ?_
    rintro _ _ w83 ⟨hv85, hH86⟩ hs84
    rw [h82] at hv85
    try rw [h82] at hH86
    subst hv85 hH86
    have hs87 := St.ap0 hs84
    have hs88 := St.f4 hs87
    have hs89 := St.f3 hs88
    have hs90 := St.f3 hs89
    have hs91 := St.f3 hs90
    have hs92 := St.tk4 hs91
    refine ops_done (by kernel_rfl) ⟨hs92, ?_⟩
    obtain ⟨h93, hm⟩ := need_some hm
    refine any_val (v := .int .i64 (IntKind.i64.wrap (r81 + 8))) (v' := .int .i64 (r81 + 8)) 10 (by kernel_rfl) (fun _ => by kernel_rfl) (congrArg (Value.int .i64) (wrap_i64 h93.1 h93.2)) hs92 ?_
    refine any_step 11 (by kernel_rfl) (by kernel_rfl) ?_
    obtain ⟨r94, h95, hm⟩ := bind_some hm
    have hs96 := St.f3 hs87
    have hs97 := St.f4 hs96
    refine zC22 hs97 (rtaken13_walk (mb := mb) (vb := vb) (at_ := (r81 + 8)) (img := img) (l := l) (gw := gw) (gi := gi) (gb := gb) (n_ := n_) (hm := h95) B _) fun w98 hs100 => ?_
    have hs101 := St.f4 hs100
    have hs102 := St.f4 hs101
    have hs103 := St.f4 hs102
    have hs104 := St.tk4 hs103
    refine ops_done (by kernel_rfl) ⟨hs104, ?_⟩
    refine zA (.tuple #[(zi r94.1), (zi r94.2.1)]) 12 hs104 ?_
    refine zA (zi r94.1) 13 hs104 ?_
    refine zA (zi r94.2.1) 14 hs104 ?_
    refine zA (zi r94.2.1) 15 hs104 ?_
    refine any_done (by kernel_rfl) ?_
    refine hK74 _ _ ?_
    refine W.sr fun K105 hK105 => ?_
    refine zE 2 (hK105 _ _ ?_)
    refine W.cond (!decide (r94.2.1 = 0)) (by kernel_rfl) (fun h106 => ?_) (fun h106 => ?_)
    rotate_left
    ·
     have h106p : r94.2.1 = 0 := of_decide_eq_true (bnot_false h106)
     replace hm := ite_yes hm h106p
     refine W.skip ?_
     have hs107 := St.f2 hs100
     have hs108 := St.f4 hs107
     have hs109 := St.f4 hs108
     have hs110 := St.f3 hs109
     have hs111 := St.f4 hs110
     exact ⟨r94.2.2, slots_intro _ (by kernel_rfl), hs111, hm⟩
    have h106p : ¬ (r94.2.1 = 0) := of_decide_eq_false (bnot_true h106)
    replace hm := ite_no hm h106p
    refine W.sr fun K112 hK112 => ?_
    refine zE 3 (hK112 _ _ ?_)
    refine W.ret (ret_seq ?_)
    obtain rfl := some_inj hm
    have hs113 := St.f1 hs100
    have hs114 := St.f1 hs113
    have hs115 := St.tk2 hs114
    refine ret_of (.tuple #[(zi 0), (zi r94.2.1)]) (by kernel_rfl) ⟨_, ⟨rfl, rfl⟩, hs115⟩
   obtain ⟨h73p, hm⟩ := iN hm h73
   refine W.skip ?_
   have hs116 := St.f2 hs72
   have hs117 := St.f2 hs116
   have hs118 := St.f4 hs117
   have hs119 := St.f4 hs118
   exact ⟨l, slots_intro _ (by kernel_rfl), hs119, hm⟩
  obtain ⟨h19p, hm⟩ := iN hm h19
  refine zC00 hs17 (rnew_err (gw := gw) (gi := gi) (gb := gb) (hv := (hs17.entAt 0 rfl refA_at)) (hz := h18) (hN := h19p) B _) fun w120 hs122 => ?_
  refine ops_done (by kernel_rfl) ⟨hs122, ?_⟩
  refine zA (.tuple #[(.pointer none), (zi (if May gw gi gb then (8 : Int) else 1))]) 9 hs122 ?_
  refine zA (.pointer none) 10 hs122 ?_
  refine zA (zi (if May gw gi gb then (8 : Int) else 1)) 11 hs122 ?_
  refine zA (.pointer none) 12 hs122 ?_
  refine zA (zi (if May gw gi gb then (8 : Int) else 1)) 13 hs122 ?_
  refine any_done (by kernel_rfl) ?_
  refine hK16 _ _ ?_
  refine W.seq fun K123 hK123 => ?_
  refine W.sr fun K124 hK124 => ?_
  refine zE 2 (hK124 _ _ ?_)
  refine W.cond (!decide ((if May gw gi gb then (8 : Int) else 1) = 0)) (by kernel_rfl) (fun h125 => ?_) (fun h125 => ?_)
  rotate_left
  ·
   have h125p : (if May gw gi gb then (8 : Int) else 1) = 0 := of_decide_eq_true (bnot_false h125)
   exact absurd h125p (show ¬ ((if May gw gi gb then (8 : Int) else 1) = 0) by split <;> decide)
  have h125p : ¬ ((if May gw gi gb then (8 : Int) else 1) = 0) := of_decide_eq_false (bnot_true h125)
  replace hm := ite_no hm h125p
  refine W.sr fun K126 hK126 => ?_
  refine zR 3 ?_
  obtain ⟨r127, h128, hm⟩ := bind_some hm
  replace h128 := some_inj h128
  refine ops_set 5 (v := .int .i64 r127) (Eq.trans (by kernel_rfl) (congrArg (Value.int .i64) h128)) ?_
  refine zD (hK126 _ _ ?_)
  refine W.ret (ret_seq ?_)
  obtain rfl := some_inj hm
  have hs129 := St.f1 hs122
  refine ret_of (.tuple #[(zi 0), (zi r127)]) (by kernel_rfl) ⟨_, ⟨rfl, rfl⟩, hs129⟩
 refine W.region ?_
 refine zR 3 ?_
 rcases Bool.eq_false_or_eq_true (!decide (r3.2 = 0)) with h130 | h130
 rotate_left
 ·
  have h130p : r3.2 = 0 := of_decide_eq_true (bnot_false h130)
  replace hm := ite_yes hm h130p
  refine zS 19 h130 ?_
  refine zS 18 h130 ?_
  refine zE 3 ?_
  have hs131 := St.f1 hs7
  exact ⟨(!decide (r3.1 = 0)), slots_intro _ (by kernel_rfl), hs131, hm⟩
 have h130p : ¬ (r3.2 = 0) := of_decide_eq_false (bnot_true h130)
 replace hm := ite_no hm h130p
 refine zS 19 h130 ?_
 refine zS 18 h130 ?_
 refine zE 3 ?_
 have hs132 := St.f1 hs7
 exact ⟨true, slots_intro _ (by kernel_rfl), hs132, hm⟩
end Go.Proofs.YtmmclabkkigiaaaGreat

set_option maxRecDepth 20000
set_option maxHeartbeats 2000000
namespace Go.Proofs.YtmmclabkkigiaaaGreat
open Go Go.RowKit
def bown_M (gw : Int) (gi : Int) (gb : Int) (n_ : Int) (w_ : Int) : Option (Int) :=
 (some (placeOf 8 gw gi gb n_)).bind fun r4 =>
need (-9223372036854775808 ≤ (r4 + w_) ∧ (r4 + w_) ≤ 9223372036854775807) <|
some (r4 + w_)
theorem bown_walk {img : List Int} {l : List (Int × Int)} {gw : Int} {gi : Int} {gb : Int} {n_ : Int} {w_ : Int} {mb vb : Nat} {r : Int} (B : Nat) (w : World) (hmb : w.heap[mb]? = some (.cells [(zp vb), (zi gw), (zi gi), (zi gb), (zi n_)].toArray 180 (0, 0))) (hv : ViewAt (ptr vb) img l w) (hm : bown_M gw gi gb n_ w_ = some r) : Spec Tryz.prog 137 #[(zp mb), (zi w_)] B w [] (fun v H' => v = (zi r) ∧ H' = []) := by
 refine spec_Q Tryz.func137 rfl fun hs => ?_
 unfold bown_M at hm
 refine W.sr fun K1 hK1 => ?_
 refine zE 1 (hK1 _ _ ?_)
 refine W.seq fun K2 hK2 => ?_
 have hs3 := hs.drew
 refine W.regionD [(0, 0), (1, 1), (2, 2), (4, 4), (0, 0), (16, 16), (32, 32), (64, 64), (136, 136), (0, 0), (768, 768), (2047, 1024)] (fun w_ => St B w [] w_ []) (by kernel_rfl) hs3 ?_
 refine zA (zp mb) 0 hs3 ?_
 refine zA (zp mb) 1 hs3 ?_
 refine zA (.pointer (some ⟨mb, 1, none⟩)) 2 hs3 ?_
 refine any_R 3 (by kernel_rfl) (fun _ hS_ => runs_loadAgg (ad := ⟨mb, 1, none⟩) (cs := [(zi gw), (zi gi), (zi gb)]) (by kernel_rfl) (cells_sub (hS_.old hmb) rfl)) hs3 ?_
 refine zA (zp mb) 4 hs3 ?_
 refine zA (zp mb) 5 hs3 ?_
 refine zA (.pointer (some ⟨mb, 4, none⟩)) 6 hs3 ?_
 refine zB 7 ⟨mb, 4, none⟩ (zi n_) (fun _ hS_ => (cell_of_blk (hS_.old hmb) rfl)) hs3 ?_
 refine zA (zi w_) 9 hs3 ?_
 refine any_step 8 (by kernel_rfl) (by kernel_rfl) ?_
 obtain ⟨r4, h5, hm⟩ := bind_some hm
 replace h5 := some_inj h5
 refine ops_call0 hs3 (by kernel_rfl) (inodeat_spec (gw := gw) (gi := gi) (gb := gb) (n_ := n_) B _) ?_
 rintro _ _ w6 ⟨hv8, hH9⟩ hs7
 rw [h5] at hv8
 try rw [h5] at hH9
 subst hv8 hH9
 have hs10 := St.ap0 hs7
 refine ops_done (by kernel_rfl) ⟨hs10, ?_⟩
 obtain ⟨h11, hm⟩ := need_some hm
 refine any_val (v := .int .i64 (IntKind.i64.wrap (r4 + w_))) (v' := .int .i64 (r4 + w_)) 10 (by kernel_rfl) (fun _ => by kernel_rfl) (congrArg (Value.int .i64) (wrap_i64 h11.1 h11.2)) hs10 ?_
 refine zA (zi (r4 + w_)) 11 hs10 ?_
 refine any_done (by kernel_rfl) ?_
 refine hK2 _ _ ?_
 refine W.ret ?_
 obtain rfl := some_inj hm
 refine ret_of (zi (r4 + w_)) (by kernel_rfl) ⟨_, ⟨rfl, rfl⟩, hs10⟩
end Go.Proofs.YtmmclabkkigiaaaGreat

set_option maxRecDepth 20000
set_option maxHeartbeats 2000000
namespace Go.Proofs.YtmmclabkkigiaaaGreat
open Go Go.RowKit
def bchain_M (img : List Int) (l : List (Int × Int)) (gw : Int) (gi : Int) (gb : Int) (n_ : Int) : Option (Int) :=
 (bown_M gw gi gb n_ 8).bind fun r4 =>
need (-9223372036854775808 ≤ (vget img l r4) ∧ (vget img l r4) ≤ 9223372036854775807) <|
some (vget img l r4)
theorem bchain_walk {img : List Int} {l : List (Int × Int)} {gw : Int} {gi : Int} {gb : Int} {n_ : Int} {mb vb : Nat} {r : Int} (B : Nat) (w : World) (hmb : w.heap[mb]? = some (.cells [(zp vb), (zi gw), (zi gi), (zi gb), (zi n_)].toArray 180 (0, 0))) (hv : ViewAt (ptr vb) img l w) (hm : bchain_M img l gw gi gb n_ = some r) : Spec Tryz.prog 138 #[(zp mb)] B w [] (fun v H' => v = (zi r) ∧ H' = []) := by
 refine spec_Q Tryz.func138 rfl fun hs => ?_
 unfold bchain_M at hm
 refine W.sr fun K1 hK1 => ?_
 refine zE 1 (hK1 _ _ ?_)
 refine W.seq fun K2 hK2 => ?_
 have hs3 := hs.drew
 refine W.regionD [(0, 0), (1, 1), (2, 2), (4, 4), (0, 0), (16, 16), (40, 40), (64, 64), (255, 128)] (fun w_ => St B w [] w_ []) (by kernel_rfl) hs3 ?_
 refine zA (zp mb) 0 hs3 ?_
 refine zA (zp mb) 1 hs3 ?_
 refine zA (zp mb) 2 hs3 ?_
 refine zB 3 ⟨mb, 0, none⟩ (zp vb) (fun _ hS_ => (cell_of_blk (hS_.old hmb) rfl)) hs3 ?_
 refine zA (zp mb) 4 hs3 ?_
 refine any_step 5 (by kernel_rfl) (by kernel_rfl) ?_
 obtain ⟨r4, h5, hm⟩ := bind_some hm
 refine zC00 hs3 (bown_walk (w_ := 8) (img := img) (l := l) (gw := gw) (gi := gi) (gb := gb) (n_ := n_) (hmb := (hs3.old hmb)) (hv := (viewAt_old hs3 hv)) (hm := h5) B _) fun w6 hs8 => ?_
 refine ops_done (by kernel_rfl) ⟨hs8, ?_⟩
 refine any_step 6 (by kernel_rfl) (by kernel_rfl) ?_
 refine zC00 hs8 (get_spec (at_ := r4) (hv := (viewAt_old hs8 hv)) B _) fun w9 hs11 => ?_
 refine ops_done (by kernel_rfl) ⟨hs11, ?_⟩
 obtain ⟨h12, hm⟩ := need_some hm
 refine any_val (v := .int .i64 (IntKind.i64.wrap (vget img l r4))) (v' := .int .i64 (vget img l r4)) 7 (by kernel_rfl) (fun _ => by kernel_rfl) (congrArg (Value.int .i64) (wrap_i64 h12.1 h12.2)) hs11 ?_
 refine zA (zi (vget img l r4)) 8 hs11 ?_
 refine any_done (by kernel_rfl) ?_
 refine hK2 _ _ ?_
 refine W.ret ?_
 obtain rfl := some_inj hm
 refine ret_of (zi (vget img l r4)) (by kernel_rfl) ⟨_, ⟨rfl, rfl⟩, hs11⟩
def bdirect_M (gw : Int) (gi : Int) (gb : Int) (n_ : Int) (k_ : Int) : Option (Int × Bool) :=
 need (-9223372036854775808 ≤ (4 + k_) ∧ (4 + k_) ≤ 9223372036854775807) <|
(bown_M gw gi gb n_ (4 + k_)).bind fun r4 =>
some (r4, true)
theorem bdirect_walk {img : List Int} {l : List (Int × Int)} {gw : Int} {gi : Int} {gb : Int} {n_ : Int} {k_ : Int} {mb vb : Nat} {r : Int × Bool} (B : Nat) (w : World) (hmb : w.heap[mb]? = some (.cells [(zp vb), (zi gw), (zi gi), (zi gb), (zi n_)].toArray 180 (0, 0))) (hv : ViewAt (ptr vb) img l w) (hm : bdirect_M gw gi gb n_ k_ = some r) : Spec Tryz.prog 133 #[(zp mb), (zi k_)] B w [] (fun v H' => v = (.tuple #[(zi r.1), (.bool r.2)]) ∧ H' = []) := by
 refine spec_Q Tryz.func133 rfl fun hs => ?_
 unfold bdirect_M at hm
 refine W.sr fun K1 hK1 => ?_
 refine zE 2 (hK1 _ _ ?_)
 refine W.sr fun K2 hK2 => ?_
 refine zR 2 ?_
 obtain ⟨h3, hm⟩ := need_some hm
 refine zI _ (wrap_i64 h3.1 h3.2) ?_
 obtain ⟨r4, h5, hm⟩ := bind_some hm
 refine zC00 hs (bown_walk (w_ := (4 + k_)) (img := img) (l := l) (gw := gw) (gi := gi) (gb := gb) (n_ := n_) (hmb := (hs.old hmb)) (hv := (viewAt_old hs hv)) (hm := h5) B _) fun w6 hs8 => ?_
 refine zE 2 (hK2 _ _ ?_)
 refine W.ret ?_
 obtain rfl := some_inj hm
 refine ret_of (.tuple #[(zi r4), (.bool true)]) (by kernel_rfl) ⟨_, ⟨rfl, rfl⟩, hs8⟩
end Go.Proofs.YtmmclabkkigiaaaGreat

set_option maxRecDepth 20000
set_option maxHeartbeats 2000000
namespace Go.Proofs.YtmmclabkkigiaaaGreat
open Go Go.RowKit
def bchained_M (img : List Int) (l : List (Int × Int)) (gw : Int) (gi : Int) (gb : Int) (n_ : Int) (k_ : Int) : Option (Int × Bool) :=
 (bchain_M img l gw gi gb n_).bind fun r3 =>
need (-9223372036854775808 ≤ ((placeOf 9 gw gi gb r3) + k_) ∧ ((placeOf 9 gw gi gb r3) + k_) ≤ 9223372036854775807) <|
need (-9223372036854775808 ≤ (((placeOf 9 gw gi gb r3) + k_) - 4) ∧ (((placeOf 9 gw gi gb r3) + k_) - 4) ≤ 9223372036854775807) <|
(some (((placeOf 9 gw gi gb r3) + k_) - 4)).bind fun r14 =>
some (r14, !decide (r3 = 0))
theorem bchained_walk {img : List Int} {l : List (Int × Int)} {gw : Int} {gi : Int} {gb : Int} {n_ : Int} {k_ : Int} {mb vb : Nat} {r : Int × Bool} (B : Nat) (w : World) (hmb : w.heap[mb]? = some (.cells [(zp vb), (zi gw), (zi gi), (zi gb), (zi n_)].toArray 180 (0, 0))) (hv : ViewAt (ptr vb) img l w) (hm : bchained_M img l gw gi gb n_ k_ = some r) : Spec Tryz.prog 134 #[(zp mb), (zi k_)] B w [] (fun v H' => v = (.tuple #[(zi r.1), (.bool r.2)]) ∧ H' = []) := by
 refine spec_Q Tryz.func134 rfl fun hs => ?_
 unfold bchained_M at hm
 refine W.sr fun K1 hK1 => ?_
 refine zE 2 (hK1 _ _ ?_)
 refine W.sr fun K2 hK2 => ?_
 refine zR 1 ?_
 obtain ⟨r3, h4, hm⟩ := bind_some hm
 refine zC00 hs (bchain_walk (img := img) (l := l) (gw := gw) (gi := gi) (gb := gb) (n_ := n_) (hmb := (hs.old hmb)) (hv := (viewAt_old hs hv)) (hm := h4) B _) fun w5 hs7 => ?_
 refine zE 1 (hK2 _ _ ?_)
 refine W.sr fun K8 hK8 => ?_
 refine zR 3 ?_
 refine zG ⟨mb, 1, none⟩ [(zi gw), (zi gi), (zi gb)] (cells_sub (hs7.old hmb) rfl) ?_
 refine zR 1 ?_
 refine zC00 hs7 (blockat_spec (gw := gw) (gi := gi) (gb := gb) (n_ := r3) B _) fun w9 hs11 => ?_
 refine zR 1 ?_
 obtain ⟨h12, hm⟩ := need_some hm
 refine zI _ (wrap_i64 h12.1 h12.2) ?_
 obtain ⟨h13, hm⟩ := need_some hm
 refine zI _ (wrap_i64 h13.1 h13.2) ?_
 refine zR 3 ?_
 obtain ⟨r14, h15, hm⟩ := bind_some hm
 replace h15 := some_inj h15
 refine ops_set 4 (v := .int .i64 r14) (Eq.trans (by kernel_rfl) (congrArg (Value.int .i64) h15)) ?_
 refine zE 1 (hK8 _ _ ?_)
 refine W.ret ?_
 obtain rfl := some_inj hm
 refine ret_of (.tuple #[(zi r14), (.bool (!decide (r3 = 0)))]) (by kernel_rfl) ⟨_, ⟨rfl, rfl⟩, hs11⟩
end Go.Proofs.YtmmclabkkigiaaaGreat

set_option maxRecDepth 20000
set_option maxHeartbeats 2000000
namespace Go.Proofs.YtmmclabkkigiaaaGreat
open Go Go.RowKit
def bword_M (img : List Int) (l : List (Int × Int)) (gw : Int) (gi : Int) (gb : Int) (n_ : Int) (k_ : Int) : Option (Int × Bool) :=
 if k_ ≥ 4 then ((bchained_M img l gw gi gb n_ k_).bind fun r7 =>
some (r7.1, r7.2)) else ((bdirect_M gw gi gb n_ k_).bind fun r13 =>
some (r13.1, r13.2))
theorem bword_walk {img : List Int} {l : List (Int × Int)} {gw : Int} {gi : Int} {gb : Int} {n_ : Int} {k_ : Int} {mb vb : Nat} {r : Int × Bool} (B : Nat) (w : World) (hmb : w.heap[mb]? = some (.cells [(zp vb), (zi gw), (zi gi), (zi gb), (zi n_)].toArray 180 (0, 0))) (hv : ViewAt (ptr vb) img l w) (hm : bword_M img l gw gi gb n_ k_ = some r) : Spec Tryz.prog 119 #[(zp mb), (zi k_)] B w [] (fun v H' => v = (.tuple #[(zi r.1), (.bool r.2)]) ∧ H' = []) := by
 refine spec_Q Tryz.func119 rfl fun hs => ?_
 unfold bword_M at hm
 refine W.sr fun K1 hK1 => ?_
 refine zE 2 (hK1 _ _ ?_)
 refine W.sr fun K2 hK2 => ?_
 refine zE 3 (hK2 _ _ ?_)
 refine W.seq fun K3 hK3 => ?_
 refine W.sr fun K4 hK4 => ?_
 refine zE 2 (hK4 _ _ ?_)
 refine W.cond (decide (k_ ≥ 4)) (by kernel_rfl) (fun h5 => ?_) (fun h5 => ?_)
 ·
  obtain ⟨h5p, hm⟩ := iY hm h5
  refine W.region ?_
  refine zE 3 (hK3 _ _ ?_)
  refine W.sr fun K6 hK6 => ?_
  refine zR 2 ?_
  obtain ⟨r7, h8, hm⟩ := bind_some hm
  refine zC00 hs (bchained_walk (k_ := k_) (img := img) (l := l) (gw := gw) (gi := gi) (gb := gb) (n_ := n_) (hmb := (hs.old hmb)) (hv := (viewAt_old hs hv)) (hm := h8) B _) fun w9 hs11 => ?_
  refine zE 4 (hK6 _ _ ?_)
  refine W.ret ?_
  obtain rfl := some_inj hm
  refine ret_of (.tuple #[(zi r7.1), (.bool r7.2)]) (by kernel_rfl) ⟨_, ⟨rfl, rfl⟩, hs11⟩
 obtain ⟨h5p, hm⟩ := iN hm h5
 refine W.skip ?_
 refine hK3 _ _ ?_
 refine W.sr fun K12 hK12 => ?_
 refine zR 2 ?_
 obtain ⟨r13, h14, hm⟩ := bind_some hm
 refine zC00 hs (bdirect_walk (k_ := k_) (img := img) (l := l) (gw := gw) (gi := gi) (gb := gb) (n_ := n_) (hmb := (hs.old hmb)) (hv := (viewAt_old hs hv)) (hm := h14) B _) fun w15 hs17 => ?_
 refine zE 4 (hK12 _ _ ?_)
 refine W.ret ?_
 obtain rfl := some_inj hm
 refine ret_of (.tuple #[(zi r13.1), (.bool r13.2)]) (by kernel_rfl) ⟨_, ⟨rfl, rfl⟩, hs17⟩
end Go.Proofs.YtmmclabkkigiaaaGreat

set_option maxRecDepth 20000
set_option maxHeartbeats 2000000
namespace Go.Proofs.YtmmclabkkigiaaaGreat
open Go Go.RowKit
def bat_J2 (img : List Int) (l : List (Int × Int)) (gw : Int) (gi : Int) (gb : Int) (n_ : Int) (k_ : Int) (p5 : Int) : Option (Int × Int) :=
 if p5 = 0 then ((bword_M img l gw gi gb n_ k_).bind fun r11 =>
if r11.2 = true then (need (0 ≤ gb ∧ gb ≤ 18446744073709551615) <|
if (vget img l r11.1) ≥ gb then (some (0, 4)) else (need (-9223372036854775808 ≤ (vget img l r11.1) ∧ (vget img l r11.1) ≤ 9223372036854775807) <|
some ((vget img l r11.1), 0))) else (some (0, 0))) else (some (0, p5))
def bat_J1 (img : List Int) (l : List (Int × Int)) (gw : Int) (gi : Int) (gb : Int) (n_ : Int) (k_ : Int) : Option (Int × Int) :=
 (some (igetM img l gw gi gb n_)).bind fun r33 =>
bat_J2 img l gw gi gb n_ k_ r33.2
def bat_M (img : List Int) (l : List (Int × Int)) (gw : Int) (gi : Int) (gb : Int) (n_ : Int) (k_ : Int) : Option (Int × Int) :=
 if k_ < 0 then (if k_ < 0 then (some (0, 1)) else (bat_J1 img l gw gi gb n_ k_)) else (if k_ ≥ 12 then (some (0, 1)) else (bat_J1 img l gw gi gb n_ k_))
theorem bat_walk {img : List Int} {l : List (Int × Int)} {gw : Int} {gi : Int} {gb : Int} {n_ : Int} {k_ : Int} {mb vb : Nat} {r : Int × Int} (B : Nat) (w : World) (hmb : w.heap[mb]? = some (.cells [(zp vb), (zi gw), (zi gi), (zi gb), (zi n_)].toArray 180 (0, 0))) (hv : ViewAt (ptr vb) img l w) (hm : bat_M img l gw gi gb n_ k_ = some r) : Spec Tryz.prog 98 #[(zp mb), (zi k_)] B w [] (fun v H' => v = (.tuple #[(zi r.1), (zi r.2)]) ∧ H' = []) := by
 refine spec_Q Tryz.func98 rfl fun hs => ?_
 unfold bat_M at hm
 refine W.sr fun K1 hK1 => ?_
 refine zE 2 (hK1 _ _ ?_)
 refine W.seq_join (fun s_ w_ => (∃ us, s_ = slots 62 [(0, (zp mb)), (1, (zi k_))] us) ∧ St B w [] w_ [] ∧ bat_J1 img l gw gi gb n_ k_ = some r) ?_ ?_
 ·
  rintro _ w2 ⟨⟨us, rfl⟩, hs3, hm⟩
  unfold bat_J1 at hm
  refine W.seq fun K4 hK4 => ?_
  refine W.seq_join (fun s_ w_ => ∃ (p5 : Int), (∃ us, s_ = slots 62 [(0, (zp mb)), (1, (zi k_)), (7, (zi p5))] us) ∧ St B w [] w_ [] ∧ bat_J2 img l gw gi gb n_ k_ p5 = some r) ?_ ?_
  ·
   rintro _ w6 ⟨p5, ⟨us, rfl⟩, hs7, hm⟩
   unfold bat_J2 at hm
   refine W.sr fun K8 hK8 => ?_
   refine zE 2 (hK8 _ _ ?_)
   refine W.cond (!decide (p5 = 0)) (by kernel_rfl) (fun h9 => ?_) (fun h9 => ?_)
   rotate_left
   ·
    have h9p : p5 = 0 := of_decide_eq_true (bnot_false h9)
    replace hm := ite_yes hm h9p
    refine W.skip ?_
    refine hK4 _ _ ?_
    refine W.sr fun K10 hK10 => ?_
    refine zR 2 ?_
    obtain ⟨r11, h12, hm⟩ := bind_some hm
    refine zC00 hs7 (bword_walk (k_ := k_) (img := img) (l := l) (gw := gw) (gi := gi) (gb := gb) (n_ := n_) (hmb := (hs7.old hmb)) (hv := (viewAt_old hs7 hv)) (hm := h12) B _) fun w13 hs15 => ?_
    refine zE 5 (hK10 _ _ ?_)
    refine W.seq fun K16 hK16 => ?_
    refine W.sr fun K17 hK17 => ?_
    refine zE 2 (hK17 _ _ ?_)
    refine W.cond (!r11.2) (by kernel_rfl) (fun h18 => ?_) (fun h18 => ?_)
    rotate_left
    ·
     have h18p : r11.2 = true := (bnot_false h18)
     replace hm := ite_yes hm h18p
     refine W.skip ?_
     refine hK16 _ _ ?_
     refine W.sr fun K19 hK19 => ?_
     refine zR 3 ?_
     refine zL ⟨mb, 0, none⟩ (zp vb) (cell_of_blk (hs15.old hmb) rfl) ?_
     refine zR 1 ?_
     refine zC00 hs15 (get_spec (at_ := r11.1) (hv := (viewAt_old hs15 hv)) B _) fun w20 hs22 => ?_
     refine zE 1 (hK19 _ _ ?_)
     refine W.seq fun K23 hK23 => ?_
     refine W.sr fun K24 hK24 => ?_
     refine zR 5 ?_
     refine zL ⟨mb, 3, none⟩ (zi gb) (cell_of_blk (hs22.old hmb) rfl) ?_
     obtain ⟨h25, hm⟩ := need_some hm
     refine zI _ (wrap_u64 h25.1 (Int.lt_of_le_of_lt h25.2 (by decide))) ?_
     refine zE 1 (hK24 _ _ ?_)
     refine W.cond (decide ((vget img l r11.1) ≥ gb)) (by kernel_rfl) (fun h26 => ?_) (fun h26 => ?_)
     ·
      obtain ⟨h26p, hm⟩ := iY hm h26
      refine W.sr fun K27 hK27 => ?_
      refine zE 2 (hK27 _ _ ?_)
      refine W.ret (ret_seq ?_)
      obtain rfl := some_inj hm
      refine ret_of (.tuple #[(zi 0), (zi 4)]) (by kernel_rfl) ⟨_, ⟨rfl, rfl⟩, hs22⟩
     obtain ⟨h26p, hm⟩ := iN hm h26
     refine W.skip ?_
     refine hK23 _ _ ?_
     refine W.sr fun K28 hK28 => ?_
     refine zR 1 ?_
     obtain ⟨h29, hm⟩ := need_some hm
     refine zI _ (wrap_i64 h29.1 h29.2) ?_
     refine zE 2 (hK28 _ _ ?_)
     refine W.ret ?_
     obtain rfl := some_inj hm
     refine ret_of (.tuple #[(zi (vget img l r11.1)), (zi 0)]) (by kernel_rfl) ⟨_, ⟨rfl, rfl⟩, hs22⟩
    have h18p : ¬ (r11.2 = true) := ne_true_of_eq_false (bnot_true h18)
    replace hm := ite_no hm h18p
    refine W.sr fun K30 hK30 => ?_
    refine zE 2 (hK30 _ _ ?_)
    refine W.ret (ret_seq ?_)
    obtain rfl := some_inj hm
    refine ret_of (.tuple #[(zi 0), (zi 0)]) (by kernel_rfl) ⟨_, ⟨rfl, rfl⟩, hs15⟩
   have h9p : ¬ (p5 = 0) := of_decide_eq_false (bnot_true h9)
   replace hm := ite_no hm h9p
   refine W.sr fun K31 hK31 => ?_
   refine zE 3 (hK31 _ _ ?_)
   refine W.ret (ret_seq ?_)
   obtain rfl := some_inj hm
   refine ret_of (.tuple #[(zi 0), (zi p5)]) (by kernel_rfl) ⟨_, ⟨rfl, rfl⟩, hs7⟩
  have hs32 := hs3.drew
  refine W.regionD [(0, 0), (1, 1), (2, 2), (4, 4), (0, 0), (16, 16), (32, 32), (64, 64), (0, 0), (256, 256), (512, 512), (1024, 1024), (2184, 2184), (4096, 4096), (8192, 8192), (8192, 8192), (0, 0), (98303, 81920), (262143, 32768)] (fun w_ => St B w [] w_ []) (by kernel_rfl) hs32 ?_
  refine zA (zp mb) 0 hs32 ?_
  refine zA (zp mb) 1 hs32 ?_
  refine zA (zp mb) 2 hs32 ?_
  refine zB 3 ⟨mb, 0, none⟩ (zp vb) (fun _ hS_ => (cell_of_blk (hS_.old hmb) rfl)) hs32 ?_
  refine zA (zp mb) 4 hs32 ?_
  refine zA (zp mb) 5 hs32 ?_
  refine zA (.pointer (some ⟨mb, 1, none⟩)) 6 hs32 ?_
  refine any_R 7 (by kernel_rfl) (fun _ hS_ => runs_loadAgg (ad := ⟨mb, 1, none⟩) (cs := [(zi gw), (zi gi), (zi gb)]) (by kernel_rfl) (cells_sub (hS_.old hmb) rfl)) hs32 ?_
  refine zA (zp mb) 8 hs32 ?_
  refine zA (zp mb) 9 hs32 ?_
  refine zA (.pointer (some ⟨mb, 4, none⟩)) 10 hs32 ?_
  refine zB 11 ⟨mb, 4, none⟩ (zi n_) (fun _ hS_ => (cell_of_blk (hS_.old hmb) rfl)) hs32 ?_
  refine any_step2 12 16 (by kernel_rfl) (by kernel_rfl) (by kernel_rfl) ?_ ?_
  ·
   obtain ⟨r33, h34, hm⟩ := bind_some hm
   replace h34 := some_inj h34
   refine ops_call0 hs32 (by kernel_rfl) (ig_spec (gw := gw) (gi := gi) (gb := gb) (n_ := n_) (hv := (viewAt_old hs32 hv)) B _) ?_
   rintro _ _ w35 ⟨hv37, hH38⟩ hs36
   rw [h34] at hv37
   try rw [h34] at hH38
   subst hv37 hH38
   have hs39 := St.ap0 hs36
   refine ops_done (by kernel_rfl) ⟨hs39, ?_⟩
   refine zA (.tuple #[(.agg #[(zu r33.1.k), (zu r33.1.l), (zu r33.1.o), (zu r33.1.s), (zu r33.1.a), (zu r33.1.b), (zu r33.1.c), (zu r33.1.d), (zu r33.1.e), (zu r33.1.m)]), (zi r33.2)]) 13 hs39 ?_
   refine zA (.agg #[(zu r33.1.k), (zu r33.1.l), (zu r33.1.o), (zu r33.1.s), (zu r33.1.a), (zu r33.1.b), (zu r33.1.c), (zu r33.1.d), (zu r33.1.e), (zu r33.1.m)]) 14 hs39 ?_
   refine zA (zi r33.2) 15 hs39 ?_
   refine any_step 16 (by kernel_rfl) (by kernel_rfl) ?_
   refine zN [(zu 0), (zu 0), (zu 0), (zu 0), (zu 0), (zu 0), (zu 0), (zu 0), (zu 0), (zu 0)] 65 hs39 fun b42 w40 hs41 => ?_
   have hs43 := St.tk0 hs41
   refine ops_done (by kernel_rfl) ⟨hs43, ?_⟩
   refine any_step 17 (by kernel_rfl) (by kernel_rfl) ?_
   refine zT 0 [(zu r33.1.k), (zu r33.1.l), (zu r33.1.o), (zu r33.1.s), (zu r33.1.a), (zu r33.1.b), (zu r33.1.c), (zu r33.1.d), (zu r33.1.e), (zu r33.1.m)] [(zu r33.1.k), (zu r33.1.l), (zu r33.1.o), (zu r33.1.s), (zu r33.1.a), (zu r33.1.b), (zu r33.1.c), (zu r33.1.d), (zu r33.1.e), (zu r33.1.m)] hs41 fun w44 hs46 => ?_
   have hs47 := St.tk0 hs46
   refine ops_done (by kernel_rfl) ⟨hs47, ?_⟩
   refine zA (zi r33.2) 18 hs47 ?_
   refine any_done (by kernel_rfl) ?_
   have hs48 := St.tk0 hs46
   exact ⟨r33.2, slots_intro _ (by kernel_rfl), hs48, hm⟩
  refine zN [(zu 0), (zu 0), (zu 0), (zu 0), (zu 0), (zu 0), (zu 0), (zu 0), (zu 0), (zu 0)] 65 hs32 fun b51 w49 hs50 => ?_
  have hs52 := St.tk0 hs50
  refine ops_done (by kernel_rfl) ⟨hs52, ?_⟩
  refine any_step 12 (by kernel_rfl) (by kernel_rfl) ?_
  obtain ⟨r53, h54, hm⟩ := bind_some hm
  replace h54 := some_inj h54
  refine ops_call0 hs50 (by kernel_rfl) (ig_spec (gw := gw) (gi := gi) (gb := gb) (n_ := n_) (hv := (viewAt_old hs50 hv)) B _) ?_
  rintro _ _ w55 ⟨hv57, hH58⟩ hs56
  rw [h54] at hv57
  try rw [h54] at hH58
  subst hv57 hH58
  have hs59 := St.ap0 hs56
  have hs60 := St.tk0 hs59
  refine ops_done (by kernel_rfl) ⟨hs60, ?_⟩
  refine zA (.tuple #[(.agg #[(zu r53.1.k), (zu r53.1.l), (zu r53.1.o), (zu r53.1.s), (zu r53.1.a), (zu r53.1.b), (zu r53.1.c), (zu r53.1.d), (zu r53.1.e), (zu r53.1.m)]), (zi r53.2)]) 13 hs60 ?_
  refine zA (.agg #[(zu r53.1.k), (zu r53.1.l), (zu r53.1.o), (zu r53.1.s), (zu r53.1.a), (zu r53.1.b), (zu r53.1.c), (zu r53.1.d), (zu r53.1.e), (zu r53.1.m)]) 14 hs60 ?_
  refine zA (zi r53.2) 15 hs60 ?_
  refine any_step 17 (by kernel_rfl) (by kernel_rfl) ?_
  refine zT 0 [(zu r53.1.k), (zu r53.1.l), (zu r53.1.o), (zu r53.1.s), (zu r53.1.a), (zu r53.1.b), (zu r53.1.c), (zu r53.1.d), (zu r53.1.e), (zu r53.1.m)] [(zu r53.1.k), (zu r53.1.l), (zu r53.1.o), (zu r53.1.s), (zu r53.1.a), (zu r53.1.b), (zu r53.1.c), (zu r53.1.d), (zu r53.1.e), (zu r53.1.m)] hs59 fun w61 hs63 => ?_
  have hs64 := St.tk0 hs63
  refine ops_done (by kernel_rfl) ⟨hs64, ?_⟩
  refine zA (zi r53.2) 18 hs64 ?_
  refine any_done (by kernel_rfl) ?_
  have hs65 := St.tk0 hs63
  exact ⟨r53.2, slots_intro _ (by kernel_rfl), hs65, hm⟩
 refine W.block ?_
 refine W.sr fun K66 hK66 => ?_
 refine zE 3 (hK66 _ _ ?_)
 refine W.cond_false false (by kernel_rfl) rfl ?_
 refine W.seq fun K67 hK67 => ?_
 refine W.sr fun K68 hK68 => ?_
 refine zE 3 (hK68 _ _ ?_)
 refine W.cond (decide (k_ < 0)) (by kernel_rfl) (fun h69 => ?_) (fun h69 => ?_)
 ·
  obtain ⟨h69p, hm⟩ := iY hm h69
  refine W.skip ?_
  refine hK67 _ _ ?_
  refine W.cond (decide (k_ < 0)) (by kernel_rfl) (fun h70 => ?_) (fun h70 => ?_)
  ·
   obtain ⟨h70p, hm⟩ := iY hm h70
   refine W.sr fun K71 hK71 => ?_
   refine zE 2 (hK71 _ _ ?_)
   refine W.ret (ret_block (ret_seq ?_))
   obtain rfl := some_inj hm
   refine ret_of (.tuple #[(zi 0), (zi 1)]) (by kernel_rfl) ⟨_, ⟨rfl, rfl⟩, hs⟩
  obtain ⟨h70p, hm⟩ := iN hm h70
  refine W.skip ?_
  refine normal_block ?_
  exact ⟨slots_intro _ (by kernel_rfl), hs, hm⟩
 obtain ⟨h69p, hm⟩ := iN hm h69
 refine W.region ?_
 refine zE 3 (hK67 _ _ ?_)
 refine W.cond (decide (k_ ≥ 12)) (by kernel_rfl) (fun h72 => ?_) (fun h72 => ?_)
 ·
  obtain ⟨h72p, hm⟩ := iY hm h72
  refine W.sr fun K73 hK73 => ?_
  refine zE 2 (hK73 _ _ ?_)
  refine W.ret (ret_block (ret_seq ?_))
  obtain rfl := some_inj hm
  refine ret_of (.tuple #[(zi 0), (zi 1)]) (by kernel_rfl) ⟨_, ⟨rfl, rfl⟩, hs⟩
 obtain ⟨h72p, hm⟩ := iN hm h72
 refine W.skip ?_
 refine normal_block ?_
 exact ⟨slots_intro _ (by kernel_rfl), hs, hm⟩
end Go.Proofs.YtmmclabkkigiaaaGreat

namespace Go.Proofs.YtmmclabkkigiaaaGreat
open Go Go.RowKit
theorem VI.vwrite {img : List Int} {l : List (Int × Int)} {a x : Int} (h : VI img l) (hx : U64 x) : VI img (vwrite img l a x).2 := by
  unfold Go.Proofs.YtmmclabkkigiaaaGreat.vwrite
  split
  · exact h
  · split
    · exact h
    · exact h.vput hx
theorem vget_vput {img : List Int} {l : List (Int × Int)} {a x z : Int} (hz : z ≠ a) : vget img (vput img l a x).2 z = vget img l z := by
  unfold vput
  split
  · rename_i ha
    cases vlook l a with
    | some y => simp only; rw [vget_vset ha, if_neg hz]
    | none =>
      simp only
      split
      · rfl
      · simp only; rw [vget_vset ha, if_neg hz]
  · rfl
theorem vget_vwrite {img : List Int} {l : List (Int × Int)} {a x z : Int} (hz : z ≠ a) : vget img (vwrite img l a x).2 z = vget img l z := by
  unfold vwrite
  split
  · rfl
  · split
    · rfl
    · exact vget_vput hz
theorem vwrite_got {img : List Int} {l : List (Int × Int)} {a x : Int} (h0 : (vwrite img l a x).1 = 0) : vget img (vwrite img l a x).2 a = x := by
  unfold vwrite at h0 ⊢
  split at h0
  · cases h0
  · rename_i ha
    rw [if_neg ha]
    have hin : 0 ≤ a ∧ a < (img.length : Int) := by omega
    split at h0
    · rename_i e; rw [if_pos e]; exact e
    · rename_i e
      rw [if_neg e]
      unfold vput at h0 ⊢
      rw [if_pos hin] at h0 ⊢
      cases hl : vlook l a with
      | some y => simp only; rw [vget_vset hin, if_pos rfl]
      | none =>
        rw [hl] at h0
        simp only at h0 ⊢
        split at h0
        · cases h0
        · rename_i h96
          rw [if_neg h96]
          simp only
          rw [vget_vset hin, if_pos rfl]
theorem vget_mset {img : List Int} {l : List (Int × Int)} {at_ many i_ z : Int} {is_ : Bool} (hz : z ≠ at_ + i_ / 64) : vget img (msetF img l at_ many i_ is_).2 z = vget img l z := by
  unfold msetF
  split
  · exact vget_vput hz
  · rfl
section
variable {gw gi gb n k : Int} {img : List Int} {l : List (Int × Int)}
theorem takeB_range (hg : 1 ≤ gb) (at_ : Int) : 0 ≤ (takeBF img l gw gi gb at_).1 ∧ (takeBF img l gw gi gb at_).1 < gb := by
  unfold takeBF
  rcases lst_cases (mbits img l at_) gb.toNat with ⟨i, h1, _, _, h4⟩ | ⟨_, h4⟩
  · rw [h4]
    simp only
    split
    · split
      · split
        · simp only; omega
        · simp only; omega
      · simp only; omega
    · simp only; omega
  · rw [h4]
    simp only
    simp only [Bool.false_eq_true, if_false]
    omega
structure Gt (gw gi gb : Int) (img : List Int) (l : List (Int × Int)) (n : Int) : Prop where
  may : May gw gi gb
  fit : wordsOf gw gi gb ≤ (img.length : Int)
  len : img.length ≤ 6232
  nr : 0 < n ∧ n < gi
  vi : VI img l
  ch : vget img l (288 + 208 * gw + 16 * n) < gb
theorem gt_of (hv : VI img l) (hl : img.length ≤ 6232) (h : (igetM img l gw gi gb n).2 = 0) : Gt gw gi gb img l n := by
  unfold igetM at h
  split at h
  · rename_i h0
    have hr := ifind_range img.length gw gi gb n
    split at h
    · rename_i hR
      rcases place8_cases gw gi gb n with ⟨e, _⟩ | ⟨hM, hn, e⟩
      · unfold ifind at h0
        rw [e, if_pos (by omega)] at h0
        cases h0
      · have e1 := hr.2.2 h0
        have hfit : wordsOf gw gi gb ≤ (img.length : Int) ∧ n ≠ 0 := by
          unfold ifind at h0
          split at h0
          · cases h0
          · rename_i q
            split at h0
            · cases h0
            · omega
        refine ⟨hM, hfit.1, hl, by omega, hv, ?_⟩
        have := hR.2.1.2.2.2.2.1
        rw [e1, e] at this
        have e3 : (ndAt img l (280 + 208 * gw + 16 * n)).e = vget img l (280 + 208 * gw + 16 * n + 8) := rfl
        rw [e3, show 280 + 208 * gw + 16 * n + 8 = 288 + 208 * gw + 16 * n by omega] at this
        exact this
    · cases h
  · rename_i h0
    exact absurd h h0
def wordF (img : List Int) (l : List (Int × Int)) (gw gi gb n k : Int) : Int × Bool :=
  if k < 4 then (284 + 208 * gw + 16 * n + k, true) else (276 + 208 * gw + 16 * gi + 8 * vget img l (288 + 208 * gw + 16 * n) + k, !decide (vget img l (288 + 208 * gw + 16 * n) = 0))
theorem place9_at {b : Int} (hM : May gw gi gb) (hb : 0 ≤ b ∧ b < gb) : placeOf 9 gw gi gb b = 280 + 208 * gw + 16 * gi + 8 * b := by simp [placeOf, hM, hb]
theorem Gt.gplace (h : Gt gw gi gb img l n) : placeOf 8 gw gi gb n = 280 + 208 * gw + 16 * n := place8_in h.may (by have := h.nr; omega)
theorem Gt.gchain (h : Gt gw gi gb img l n) : 0 ≤ vget img l (288 + 208 * gw + 16 * n) := (h.vi.1 _).1
theorem Gt.bown (h : Gt gw gi gb img l n) {w : Int} (hw : 0 ≤ w ∧ w ≤ 100) : bown_M gw gi gb n w = some (280 + 208 * gw + 16 * n + w) := by
  have hg := may_out h.may
  have hn := h.nr
  unfold bown_M
  rw [h.gplace]
  exact bind_of rfl (need_of (by omega) rfl)
theorem Gt.bchain (h : Gt gw gi gb img l n) : bchain_M img l gw gi gb n = some (vget img l (288 + 208 * gw + 16 * n)) := by
  have hg := may_out h.may
  have hc := h.ch
  have hc0 := h.gchain
  unfold bchain_M
  refine bind_of (h.bown (by omega)) ?_
  rw [show 280 + 208 * gw + 16 * n + 8 = 288 + 208 * gw + 16 * n by omega]
  exact need_of (by omega) rfl
theorem Gt.bword (h : Gt gw gi gb img l n) (hk : 0 ≤ k ∧ k < 12) : bword_M img l gw gi gb n k = some (wordF img l gw gi gb n k) := by
  have hg := may_out h.may
  have hn := h.nr
  have hc := h.ch
  have hc0 := h.gchain
  unfold bword_M wordF
  by_cases h4 : k < 4
  · rw [if_neg (by omega), if_pos h4]
    unfold bdirect_M
    refine bind_of (y := (284 + 208 * gw + 16 * n + k, true)) (need_of (by omega) (bind_of (h.bown (by omega)) ?_)) rfl
    congr 2
    omega
  · rw [if_pos (by omega), if_neg h4]
    unfold bchained_M
    refine bind_of (y := (276 + 208 * gw + 16 * gi + 8 * vget img l (288 + 208 * gw + 16 * n) + k, !decide (vget img l (288 + 208 * gw + 16 * n) = 0))) (bind_of h.bchain ?_) rfl
    rw [place9_at h.may ⟨hc0, hc⟩]
    refine need_of (by omega) (need_of (by omega) (bind_of rfl ?_))
    congr 2
    omega
theorem Gt.wordIn (h : Gt gw gi gb img l n) (hk : 0 ≤ k ∧ k < 12) : 280 + 208 * gw ≤ (wordF img l gw gi gb n k).1 ∧ (wordF img l gw gi gb n k).1 ≠ 288 + 208 * gw + 16 * n := by
  have hg := may_out h.may
  have hn := h.nr
  have hc := h.ch
  have hc0 := h.gchain
  unfold wordF
  split
  · simp only; omega
  · simp only; omega
theorem Gt.rword (h : Gt gw gi gb img l n) (hk : 0 ≤ k ∧ k < 12) : rword13_M img l gw gi gb n k = some (if (wordF img l gw gi gb n k).2 = true then (wordF img l gw gi gb n k).1 else -1) := by
  have hg := may_out h.may
  have hn := h.nr
  have hc := h.ch
  have hc0 := h.gchain
  unfold rword13_M wordF
  rw [h.gplace]
  refine bind_of rfl ?_
  by_cases h4 : k < 4
  · simp only [if_pos h4]
    refine need_of (by omega) (need_of (by omega) ?_)
    simp only [if_true]
    congr 1
    omega
  · simp only [if_neg h4]
    refine need_of (by omega) ?_
    rw [show 280 + 208 * gw + 16 * n + 8 = 288 + 208 * gw + 16 * n by omega]
    by_cases h0 : vget img l (288 + 208 * gw + 16 * n) = 0
    · rw [if_pos h0, h0]
      rfl
    · rw [if_neg h0, decide_eq_false h0, place9_at h.may ⟨hc0, hc⟩]
      refine need_of (by omega) (need_of (by omega) (need_of (by omega) (bind_of rfl ?_)))
      simp only [Bool.not_false, if_true]
      congr 1
      omega
theorem at_eq (hv : VI img l) (hl : img.length ≤ 6232) (hk : 0 ≤ k ∧ k < 12) : ∃ r : Int × Int, bat_M img l gw gi gb n k = some r ∧ rat13_M img l gw gi gb n k = some r ∧
    ((r.2 = (igetM img l gw gi gb n).2 ∧ (igetM img l gw gi gb n).2 ≠ 0 ∧ r.1 = 0) ∨ ((igetM img l gw gi gb n).2 = 0 ∧ (r.2 = 0 ∨ r.2 = 4) ∧ (0 ≤ r.1 ∧ r.1 < gb) ∧ (r.2 ≠ 0 → r.1 = 0) ∧ (r.1 ≠ 0 → (wordF img l gw gi gb n k).2 = true))) := by
  have e1 : bat_M img l gw gi gb n k = bat_J1 img l gw gi gb n k := by
    unfold bat_M
    rw [if_neg (by omega), if_neg (by omega)]
  have e2 : rat13_M img l gw gi gb n k = rat13_J1 img l gw gi gb n k (igetM img l gw gi gb n).2 := by
    unfold rat13_M
    rw [if_neg (by omega), if_neg (by omega)]
    rfl
  rw [e1, e2]
  unfold bat_J1 rat13_J1
  by_cases h0 : (igetM img l gw gi gb n).2 = 0
  · have g := gt_of hv hl h0
    have hg := may_out g.may
    have hin := g.wordIn hk
    have hu := hv.1 (wordF img l gw gi gb n k).1
    unfold U64 at hu
    rw [if_pos h0, g.rword hk]
    simp only [Option.bind]
    unfold bat_J2
    rw [if_pos h0, g.bword hk]
    simp only [Option.bind]
    by_cases hw : (wordF img l gw gi gb n k).2 = true
    · simp only [if_pos hw]
      by_cases hb : vget img l (wordF img l gw gi gb n k).1 ≥ gb
      · refine ⟨(0, 4), need_of (by omega) (if_pos hb), ?_, .inr ⟨h0, .inr rfl, by simp only; omega, fun _ => rfl, fun _ => hw⟩⟩
        rw [if_neg (by omega)]
        exact need_of (by omega) (if_pos hb)
      · refine ⟨(vget img l (wordF img l gw gi gb n k).1, 0), need_of (by omega) ((if_neg hb).trans (need_of (by omega) rfl)), ?_, .inr ⟨h0, .inl rfl, by simp only; omega, fun q => absurd rfl q, fun _ => hw⟩⟩
        rw [if_neg (by omega)]
        exact need_of (by omega) ((if_neg hb).trans (need_of (by omega) rfl))
    · rw [if_neg hw, if_neg hw, if_pos (by omega)]
      exact ⟨(0, 0), rfl, rfl, .inr ⟨h0, .inl rfl, by simp only; omega, fun _ => rfl, fun q => absurd rfl q⟩⟩
  · rw [if_neg h0]
    simp only [Option.bind]
    unfold bat_J2
    rw [if_neg h0]
    exact ⟨_, rfl, rfl, .inl ⟨rfl, h0, rfl⟩⟩
def Fr (gw gi gb n : Int) (img : List Int) (l l' : List (Int × Int)) : Prop := ∀ z, 280 + 208 * gw ≤ z → z < 280 + 208 * gw + 16 * gi → vget img l' z = vget img l z ∨ ((284 + 208 * gw + 16 * n ≤ z ∧ z ≤ 288 + 208 * gw + 16 * n) ∧ vget img l' z < gb)
theorem Fr.refl (l : List (Int × Int)) : Fr gw gi gb n img l l := fun _ _ _ => .inl rfl
theorem Fr.trans {l l' l'' : List (Int × Int)} (h : Fr gw gi gb n img l l') (h' : Fr gw gi gb n img l' l'') : Fr gw gi gb n img l l'' := fun z a b => by
  rcases h' z a b with e | e
  · rw [e]; exact h z a b
  · exact .inr e
theorem clear_fr : ∀ (ns : List Int) (l : List (Int × Int)) (z : Int), z ∉ ns → vget img (clearF img l ns).2 z = vget img l z
  | [], _, _, _ => rfl
  | n :: ns, l, z, h => by
    have hz : z ≠ n := fun e => h (by simp [e])
    unfold clearF
    split
    · rw [clear_fr ns _ z fun e => h (by simp [e])]
      exact vget_vput hz
    · exact vget_vput hz
theorem clear_len : ∀ (ns : List Int) (l : List (Int × Int)), (clearF img l ns).2.length ≤ l.length + ns.length
  | [], _ => Nat.le_refl _
  | n :: ns, l => by
    have h1 := vput_len img l n 0
    unfold clearF
    split
    · have := clear_len ns (vput img l n 0).2
      simp only [List.length_cons]
      omega
    · simp only [List.length_cons]
      omega
theorem own_mem {p z : Int} : z ∈ ownL p ↔ p ≤ z ∧ z < p + 8 := by
  unfold ownL
  simp only [List.mem_cons, List.not_mem_nil, or_false]
  omega
theorem mset_len {at_ many i_ : Int} {is_ : Bool} : (msetF img l at_ many i_ is_).2.length ≤ l.length + 1 := by
  unfold msetF
  split
  · exact vput_len img l _ _
  · simp only; omega
theorem takeB_fr (hM : May gw gi gb) : (∀ z, 280 + 208 * gw ≤ z → z < 280 + 208 * gw + 16 * gi → vget img (takeBF img l gw gi gb (272 + 208 * gw)).2.2 z = vget img l z) ∧ (takeBF img l gw gi gb (272 + 208 * gw)).2.2.length ≤ l.length + 9 := by
  have hg := may_out hM
  unfold takeBF
  rcases lst_cases (mbits img l (272 + 208 * gw)) gb.toNat with ⟨i, h1, _, _, h4⟩ | ⟨_, h4⟩
  · rw [h4]
    simp only
    have hp := place9_at (gw := gw) (gi := gi) (gb := gb) (b := (i : Int)) hM (by omega)
    rw [hp]
    have m1 : ∀ z, 280 + 208 * gw ≤ z → vget img (msetF img l (272 + 208 * gw) gb (i : Int) true).2 z = vget img l z := fun z hz => vget_mset (by omega)
    have m2 := mset_len (img := img) (l := l) (at_ := 272 + 208 * gw) (many := gb) (i_ := (i : Int)) (is_ := true)
    have m3 := clear_len (img := img) (ownL (280 + 208 * gw + 16 * gi + 8 * (i : Int))) (msetF img l (272 + 208 * gw) gb (i : Int) true).2
    have m4 : (ownL (280 + 208 * gw + 16 * gi + 8 * (i : Int))).length = 8 := rfl
    have m5 : ∀ z, 280 + 208 * gw ≤ z → z < 280 + 208 * gw + 16 * gi → vget img (clearF img (msetF img l (272 + 208 * gw) gb (i : Int) true).2 (ownL (280 + 208 * gw + 16 * gi + 8 * (i : Int)))).2 z = vget img l z := fun z a b => by
      rw [clear_fr _ _ z (fun e => by rw [own_mem] at e; omega)]
      exact m1 z a
    split
    · split
      · split
        · exact ⟨m5, by simp only; omega⟩
        · exact ⟨m5, by simp only; omega⟩
      · exact ⟨fun z a _ => m1 z a, by simp only; omega⟩
    · exact ⟨fun _ _ _ => rfl, by simp only; omega⟩
  · rw [h4]
    simp only [Bool.false_eq_true, if_false]
    exact ⟨fun _ _ _ => trivial, by omega⟩
theorem vwrite_or {a x : Int} (z : Int) : vget img (vwrite img l a x).2 z = vget img l z ∨ (z = a ∧ vget img (vwrite img l a x).2 z = x) := by
  by_cases hz : z = a
  · subst hz
    unfold vwrite
    split
    · exact .inl rfl
    · rename_i h1
      split
      · exact .inl rfl
      · unfold vput
        rw [if_pos (by omega)]
        cases vlook l z with
        | some y => exact .inr ⟨rfl, by simp only; rw [vget_vset (by omega), if_pos rfl]⟩
        | none =>
          simp only
          split
          · exact .inl rfl
          · exact .inr ⟨trivial, by simp only; rw [vget_vset (by omega), if_pos rfl]⟩
  · exact .inl (vget_vwrite hz)
theorem vwrite_len1 (a x : Int) : (vwrite img l a x).2.length ≤ l.length + 1 := by
  unfold vwrite
  split
  · simp only; omega
  · split
    · simp only; omega
    · exact vput_len img l a x
theorem rneed_ok (hv : VI img l) (hl : img.length ≤ 6232) (hk : 0 ≤ k ∧ k < 12) : ∃ r : Int, rneed13_M img l gw gi gb n k = some r := by
  obtain ⟨r, e1, e2, hr⟩ := at_eq (gw := gw) (gi := gi) (gb := gb) (n := n) hv hl hk
  unfold rneed13_M
  rw [e2]
  simp only [Option.bind]
  by_cases h2 : r.2 = 0
  · rw [if_pos h2]
    by_cases h1 : r.1 = 0
    · rw [if_pos h1]
      have h0 : (igetM img l gw gi gb n).2 = 0 := by
        rcases hr with ⟨a, b, _⟩ | ⟨a, _⟩
        · omega
        · exact a
      have g := gt_of hv hl h0
      rw [g.rword hk]
      simp only
      by_cases hq : (if (wordF img l gw gi gb n k).2 = true then (wordF img l gw gi gb n k).1 else -1) < 0
      · exact ⟨2, if_pos hq⟩
      · exact ⟨1, if_neg hq⟩
    · rw [if_neg h1]
      exact ⟨0, rfl⟩
  · rw [if_neg h2]
    exact ⟨0, rfl⟩
theorem rtk_ok (hM : May gw gi gb) (hf : wordsOf gw gi gb ≤ (img.length : Int)) (hl : img.length ≤ 6232) (hv : VI img l) (at_ : Int) : ∃ r : Int × Int × List (Int × Int), rtaken13_M img l gw gi gb at_ = some r ∧ VI img r.2.2 ∧ (r.2.1 = 0 → (0 < r.1 ∧ r.1 < gb) ∧ vget img r.2.2 at_ = r.1) ∧ (∀ z, 280 + 208 * gw ≤ z → z < 280 + 208 * gw + 16 * gi → vget img r.2.2 z = vget img l z ∨ (z = at_ ∧ vget img r.2.2 z < gb)) ∧ r.2.2.length ≤ l.length + 10 := by
  have hg := may_out hM
  have hT := takeB_range (gw := gw) (gi := gi) (img := img) (l := l) (show 1 ≤ gb by omega) (272 + 208 * gw)
  have hVT := hv.takeB (gw := gw) (gi := gi) (gb := gb) (at_ := 272 + 208 * gw)
  obtain ⟨fr1, fr2⟩ := takeB_fr (img := img) (l := l) hM
  have e2 := rtakeb_ok (gw := gw) (gi := gi) (gb := gb) hv.1 (show 0 ≤ 272 + 208 * gw ∧ 272 + 208 * gw ≤ 1000000000000 by omega) (by omega)
  have hP : May gw gi gb ∧ wordsOf gw gi gb ≤ (img.length : Int) := ⟨hM, hf⟩
  unfold rtaken13_M
  have hle : (img.length : Int) ≤ 1000000000000 := by omega
  simp only [need, if_pos hle, if_pos hP, place7 hM, e2, Option.bind]
  generalize takeBF img l gw gi gb (272 + 208 * gw) = t at *
  have hw : VI img (vwrite img t.2.2 at_ t.1).2 := hVT.vwrite (by unfold U64; omega)
  have hwf : ∀ z, 280 + 208 * gw ≤ z → z < 280 + 208 * gw + 16 * gi → vget img (vwrite img t.2.2 at_ t.1).2 z = vget img l z ∨ (z = at_ ∧ vget img (vwrite img t.2.2 at_ t.1).2 z < gb) := fun z a b => by
    rcases vwrite_or (img := img) (l := t.2.2) (a := at_) (x := t.1) z with e | ⟨e1, e2⟩
    · rw [e]; exact .inl (fr1 z a b)
    · exact .inr ⟨e1, by rw [e2]; exact hT.2⟩
  have hwl := vwrite_len1 (img := img) (l := t.2.2) at_ t.1
  by_cases h2 : t.2.1 = 0
  · simp only [if_pos h2]
    by_cases h1 : t.1 = 0
    · simp only [if_pos h1]
      exact ⟨_, rfl, hVT, fun q => (by cases q), fun z a b => .inl (fr1 z a b), by simp only; omega⟩
    · have hu : 0 ≤ t.1 ∧ t.1 ≤ 18446744073709551615 := by omega
      simp only [if_neg h1, if_pos hu]
      by_cases h3 : (vwrite img t.2.2 at_ t.1).1 = 0
      · simp only [if_pos h3]
        exact ⟨_, rfl, hw, fun _ => ⟨by simp only; omega, vwrite_got h3⟩, hwf, by simp only; omega⟩
      · simp only [if_neg h3]
        exact ⟨_, rfl, hw, fun q => absurd q h3, hwf, by simp only; omega⟩
  · simp only [if_neg h2]
    exact ⟨_, rfl, hVT, fun q => absurd q h2, fun z a b => .inl (fr1 z a b), by simp only; omega⟩
theorem rtake_ok (hv : VI img l) (hl : img.length ≤ 6232) (hk : 0 ≤ k ∧ k < 12) : ∃ r : Int × Int × List (Int × Int), rTake13_M img l gw gi gb n k = some r ∧ VI img r.2.2 ∧ Fr gw gi gb n img l r.2.2 ∧ r.2.2.length ≤ l.length + 20 ∧ (r.2.1 = 0 → (igetM img l gw gi gb n).2 = 0 → 0 ≤ r.1 ∧ r.1 < gb) := by
  obtain ⟨a, e1, e2, hr⟩ := at_eq (gw := gw) (gi := gi) (gb := gb) (n := n) hv hl hk
  unfold rTake13_M
  rw [e2]
  simp only [Option.bind]
  have done : ∃ r : Int × Int × List (Int × Int), rTake13_J1 img l gw gi gb n k a true = some r ∧ VI img r.2.2 ∧ Fr gw gi gb n img l r.2.2 ∧ r.2.2.length ≤ l.length + 20 ∧ (r.2.1 = 0 → (igetM img l gw gi gb n).2 = 0 → 0 ≤ r.1 ∧ r.1 < gb) := by
    unfold rTake13_J1
    rw [if_pos rfl]
    refine ⟨_, rfl, hv, Fr.refl _, by simp only; omega, fun _ q => ?_⟩
    rcases hr with ⟨_, b, _⟩ | ⟨_, _, b, _⟩
    · exact absurd q b
    · exact b
  by_cases h2 : a.2 = 0
  · simp only [if_pos h2]
    by_cases h1 : a.1 = 0
    · rw [decide_eq_true h1]
      simp only [Bool.not_true]
      have h0 : (igetM img l gw gi gb n).2 = 0 := by
        rcases hr with ⟨a, b, _⟩ | ⟨a, _⟩
        · omega
        · exact a
      have g := gt_of hv hl h0
      have hin := g.wordIn hk
      have hg := may_out g.may
      have hP : May gw gi gb ∧ wordsOf gw gi gb ≤ (img.length : Int) := ⟨g.may, g.fit⟩
      have hle : (img.length : Int) ≤ 1000000000000 := by omega
      have f2 := rfree_ok (gi := gi) (gb := gb) hv.1 (show 0 ≤ 264 + 208 * gw ∧ 264 + 208 * gw ≤ 1000000000000 by omega) (show 0 ≤ 272 + 208 * gw ∧ 272 + 208 * gw ≤ 1000000000000 by omega) (by omega) (by omega)
      obtain ⟨nd, n2⟩ := rneed_ok (gw := gw) (gi := gi) (gb := gb) (n := n) hv hl hk
      unfold rTake13_J1
      simp only [need, Bool.false_eq_true, if_false, if_pos hle, if_pos hP, place6 g.may, place7 g.may, f2, Option.bind, n2]
      by_cases hfr : (freeF img l gi gb (264 + 208 * gw) (272 + 208 * gw)).2 < nd
      · simp only [if_pos hfr]
        exact ⟨_, rfl, hv, Fr.refl _, by simp only; omega, fun q => by cases q⟩
      · simp only [if_neg hfr]
        rw [g.rword hk]
        simp only
        by_cases hw : (wordF img l gw gi gb n k).2 = true
        · rw [if_pos hw, if_neg (by omega)]
          obtain ⟨r, t2, t3, t4, t5, t6⟩ := rtk_ok g.may g.fit hl hv (wordF img l gw gi gb n k).1
          unfold rTake13_J2
          rw [g.rword hk, if_pos hw]
          simp only [Option.bind]
          rw [t2]
          refine ⟨_, rfl, t3, fun z a b => ?_, by simp only; omega, fun q _ => by have := (t4 q).1; omega⟩
          rcases t5 z a b with e | ⟨e1, e2⟩
          · exact .inl e
          · refine .inr ⟨?_, e2⟩
            have := g.nr
            have hc0 := g.gchain
            rw [e1] at a b ⊢
            unfold wordF at a b ⊢
            split at a
            · rename_i h4
              rw [if_pos h4]
              simp only; omega
            · rename_i h4
              rw [if_neg h4] at b
              simp only at a b
              omega
        · rw [if_neg hw, if_pos (by omega), g.gplace]
          obtain ⟨r, t2, t3, t4, f5, f6⟩ := rtk_ok g.may g.fit hl hv (280 + 208 * gw + 16 * n + 8)
          have F1 : Fr gw gi gb n img l r.2.2 := fun z a b => by
            rcases f5 z a b with e | ⟨e1, e2⟩
            · exact .inl e
            · exact .inr ⟨by omega, e2⟩
          have q8 : -9223372036854775808 ≤ 280 + 208 * gw + 16 * n + 8 ∧ 280 + 208 * gw + 16 * n + 8 ≤ 9223372036854775807 := by have := g.nr; omega
          simp only [if_pos q8, t2]
          by_cases hr0 : r.2.1 = 0
          · rw [if_pos hr0]
            obtain ⟨t5, t6⟩ := t4 hr0
            rw [show 280 + 208 * gw + 16 * n + 8 = 288 + 208 * gw + 16 * n by omega] at t6
            have g2 : Gt gw gi gb img r.2.2 n := ⟨g.may, g.fit, hl, g.nr, t3, by omega⟩
            have hw2 : (wordF img r.2.2 gw gi gb n k).2 = true := by
              unfold wordF
              split
              · rfl
              · simp only [t6]
                rw [decide_eq_false (by omega)]
                rfl
            obtain ⟨r2, s2, s3, s4, s5, s6⟩ := rtk_ok g.may g.fit hl t3 (wordF img r.2.2 gw gi gb n k).1
            unfold rTake13_J2
            rw [g2.rword hk, if_pos hw2]
            simp only [Option.bind]
            rw [s2]
            refine ⟨_, rfl, s3, F1.trans fun z a b => ?_, by simp only; omega, fun q _ => by have := (s4 q).1; omega⟩
            rcases s5 z a b with e | ⟨e1, e2⟩
            · exact .inl e
            · refine .inr ⟨?_, e2⟩
              have := g2.nr
              have hc0 := g2.gchain
              rw [e1] at a b ⊢
              unfold wordF at a b ⊢
              split at a
              · rename_i h4
                rw [if_pos h4]
                simp only; omega
              · rename_i h4
                rw [if_neg h4] at b
                simp only at a b
                omega
          · rw [if_neg hr0]
            exact ⟨_, rfl, t3, F1, by simp only; omega, fun q => absurd q hr0⟩
    · rw [decide_eq_false h1]
      exact done
  · simp only [if_neg h2]
    exact done
end
end Go.Proofs.YtmmclabkkigiaaaGreat

set_option maxRecDepth 20000
set_option maxHeartbeats 8000000
namespace Go.Proofs.YtmmclabkkigiaaaGreat
open Go Go.RowKit
def rAt15_J3 (img : List Int) (l : List (Int × Int)) (r25 : Int) (q49 : List Int) : Option (ByteArray × Int × Bool × Int) :=
 need (-9223372036854775808 ≤ (vget img l (r25 + 1)) ∧ (vget img l (r25 + 1)) ≤ 9223372036854775807) <|
(runpack_M q49 (vget img l (r25 + 1))).bind fun r54 =>
(rmay15_M r54.1).bind fun r61 =>
if r61 = true then (need (-9223372036854775808 ≤ (vget img l r25) ∧ (vget img l r25) ≤ 9223372036854775807) <|
some (r54.1, (vget img l r25), true, 0)) else (some (ByteArray.empty, 0, false, 4))
def rAt15_B0 (img : List Int) (l : List (Int × Int)) (r25 : Int) (k83 : ((List Int) × Int) → Option (ByteArray × Int × Bool × Int)) (q81 : List Int) (p82 : Int) : Option (ByteArray × Int × Bool × Int) :=
 if p82 < 8 then (need (-9223372036854775808 ≤ (r25 + p82) ∧ (r25 + p82) ≤ 9223372036854775807) <|
need (q81.length + 1 ≤ 1000000000) <|
need (-9223372036854775808 ≤ (p82 + 1) ∧ (p82 + 1) ≤ 9223372036854775807) <|
k83 ((q81 ++ [(vget img l (r25 + p82))]), (p82 + 1))) else (rAt15_J3 img l r25 q81)
def rAt15_J2 (img : List Int) (l : List (Int × Int)) (k_ : Int) (r25 : Int) (p37 : Bool) : Option (ByteArray × Int × Bool × Int) :=
 if p37 = true then (some (ByteArray.empty, 0, false, 4)) else (iter (fun k_ s_ => rAt15_B0 img l r25 k_ s_.1 s_.2) FUEL ([], 2))
def rAt15_J1 (img : List Int) (l : List (Int × Int)) (gw : Int) (gi : Int) (gb : Int) (k_ : Int) (r6 : Int × Int) (p12 : Bool) : Option (ByteArray × Int × Bool × Int) :=
 if p12 = true then (some (ByteArray.empty, 0, false, r6.2)) else ((some (placeOf 9 gw gi gb r6.1)).bind fun r25 =>
need (-9223372036854775808 ≤ (r25 + 1) ∧ (r25 + 1) ≤ 9223372036854775807) <|
if (vget img l r25) < 1 then (rAt15_J2 img l k_ r25 true) else (need (0 ≤ gi ∧ gi ≤ 18446744073709551615) <|
if (vget img l r25) ≥ gi then (rAt15_J2 img l k_ r25 true) else (if (vget img l (r25 + 1)) < 1 then (rAt15_J2 img l k_ r25 true) else (rAt15_J2 img l k_ r25 (decide ((vget img l (r25 + 1)) > 40))))))
def rAt15_M (img : List Int) (l : List (Int × Int)) (gw : Int) (gi : Int) (gb : Int) (n_ : Int) (k_ : Int) : Option (ByteArray × Int × Bool × Int) :=
 (rat13_M img l gw gi gb n_ k_).bind fun r6 =>
if r6.2 = 0 then (rAt15_J1 img l gw gi gb k_ r6 (decide (r6.1 = 0))) else (rAt15_J1 img l gw gi gb k_ r6 true)
theorem rAt15_walk {img : List Int} {l : List (Int × Int)} {gw : Int} {gi : Int} {gb : Int} {n_ : Int} {k_ : Int} {mb vb : Nat} {r : ByteArray × Int × Bool × Int} (B : Nat) (w : World) (hmb : w.heap[mb]? = some (.cells [(zp vb), (zi gw), (zi gi), (zi gb), (zi n_)].toArray 123 (0, 0))) (hv : RefAt (ptr vb) img l w) (hm : rAt15_M img l gw gi gb n_ k_ = some r) : Spec Tryz.prog 83 #[(zp mb), (zi k_)] B w [] (fun v H' => v = (.tuple #[(.agg #[(.string r.1), (zi r.2.1)]), (.bool r.2.2.1), (zi r.2.2.2)]) ∧ H' = []) := by
 refine spec_Q Tryz.func83 rfl fun hs => ?_
 unfold rAt15_M at hm
 refine W.sr fun K1 hK1 => ?_
 refine zN [(.string ByteArray.empty), (zi 0)] 76 hs fun b4 w2 hs3 => ?_
 refine zE 2 (hK1 _ _ ?_)
 refine W.sr fun K5 hK5 => ?_
 refine zR 2 ?_
 obtain ⟨r6, h7, hm⟩ := bind_some hm
 refine zC00 hs3 (rat13_walk (k_ := k_) (img := img) (l := l) (gw := gw) (gi := gi) (gb := gb) (n_ := n_) (hmb := (hs3.old hmb)) (hv := (refAt_old hs3 hv)) (hm := h7) B _) fun w8 hs10 => ?_
 refine zE 5 (hK5 _ _ ?_)
 refine W.seq fun K11 hK11 => ?_
 refine W.seq_join (fun s_ w_ => ∃ (p12 : Bool), (∃ us, s_ = slots 100 [(0, (zp mb)), (4, (zp b4)), (7, (zi r6.1)), (8, (zi r6.2)), (27, (.bool p12))] us) ∧ St B w [] w_ [zb b4 76 [(.string ByteArray.empty), (zi 0)]] ∧ rAt15_J1 img l gw gi gb k_ r6 p12 = some r) ?_ ?_
 ·
  rintro _ w13 ⟨p12, ⟨us, rfl⟩, hs14, hm⟩
  unfold rAt15_J1 at hm
  refine W.cond p12 (by kernel_rfl) (fun h15 => ?_) (fun h15 => ?_)
  ·
   have h15p : p12 = true := h15
   replace hm := ite_yes hm h15p
   refine W.sr fun K16 hK16 => ?_
   refine zR 2 ?_
   refine zT 0 [(.string ByteArray.empty), (zi 0)] [(.string ByteArray.empty), (zi 0)] hs14 fun w17 hs19 => ?_
   refine zE 2 (hK16 _ _ ?_)
   refine W.ret (ret_seq ?_)
   obtain rfl := some_inj hm
   have hs20 := St.tk0 hs19
   refine ret_of (.tuple #[(.agg #[(.string ByteArray.empty), (zi 0)]), (.bool false), (zi r6.2)]) (resS_of (by kernel_rfl) (resD_three rfl (.agg (ad := ⟨b4, 0, none⟩) (cs := [(.string ByteArray.empty), (zi 0)]) (by kernel_rfl) (by kernel_rfl) (cells_sub (hs19.heapAt 0 rfl) rfl)) (.tmp (by kernel_rfl)) (.tmp (by kernel_rfl)))) ⟨_, ⟨rfl, rfl⟩, hs20⟩
  have h15p : ¬ (p12 = true) := ne_true_of_eq_false h15
  replace hm := ite_no hm h15p
  refine W.skip ?_
  refine hK11 _ _ ?_
  refine W.sr fun K21 hK21 => ?_
  refine zR 3 ?_
  refine zG ⟨mb, 1, none⟩ [(zi gw), (zi gi), (zi gb)] (cells_sub (hs14.old hmb) rfl) ?_
  refine zR 1 ?_
  refine zC00 hs14 (rblockat_spec (gw := gw) (gi := gi) (gb := gb) (n_ := r6.1) B _) fun w22 hs24 => ?_
  refine zR 1 ?_
  obtain ⟨r25, h26, hm⟩ := bind_some hm
  replace h26 := some_inj h26
  refine ops_set 9 (v := .int .i64 r25) (Eq.trans (by kernel_rfl) (congrArg (Value.int .i64) h26)) ?_
  refine zD (hK21 _ _ ?_)
  refine W.sr fun K27 hK27 => ?_
  refine zR 3 ?_
  refine zL ⟨mb, 0, none⟩ (zp vb) (cell_of_blk (hs24.old hmb) rfl) ?_
  refine zR 1 ?_
  refine zC00 hs24 (rget_spec (at_ := r25) (hv := (refAt_old hs24 hv)) B _) fun w28 hs30 => ?_
  refine zE 1 (hK27 _ _ ?_)
  refine W.sr fun K31 hK31 => ?_
  refine zR 3 ?_
  refine zL ⟨mb, 0, none⟩ (zp vb) (cell_of_blk (hs30.old hmb) rfl) ?_
  refine zR 1 ?_
  obtain ⟨h32, hm⟩ := need_some hm
  refine zI _ (wrap_i64 h32.1 h32.2) ?_
  refine zC00 hs30 (rget_spec (at_ := (r25 + 1)) (hv := (refAt_old hs30 hv)) B _) fun w33 hs35 => ?_
  refine zE 1 (hK31 _ _ ?_)
  refine W.seq fun K36 hK36 => ?_
  refine W.seq_join (fun s_ w_ => ∃ (p37 : Bool), (∃ us, s_ = slots 100 [(0, (zp mb)), (4, (zp b4)), (9, (zi r25)), (10, (zu (vget img l r25))), (11, (zu (vget img l (r25 + 1)))), (68, (.bool p37))] us) ∧ St B w [] w_ [zb b4 76 [(.string ByteArray.empty), (zi 0)]] ∧ rAt15_J2 img l k_ r25 p37 = some r) ?_ ?_
  ·
   rintro _ w38 ⟨p37, ⟨us, rfl⟩, hs39, hm⟩
   unfold rAt15_J2 at hm
   refine W.cond p37 (by kernel_rfl) (fun h40 => ?_) (fun h40 => ?_)
   ·
    have h40p : p37 = true := h40
    replace hm := ite_yes hm h40p
    refine W.sr fun K41 hK41 => ?_
    refine zR 1 ?_
    refine zT 0 [(.string ByteArray.empty), (zi 0)] [(.string ByteArray.empty), (zi 0)] hs39 fun w42 hs44 => ?_
    refine zE 2 (hK41 _ _ ?_)
    refine W.ret (ret_seq ?_)
    obtain rfl := some_inj hm
    have hs45 := St.tk0 hs44
    refine ret_of (.tuple #[(.agg #[(.string ByteArray.empty), (zi 0)]), (.bool false), (zi 4)]) (resS_of (by kernel_rfl) (resD_three rfl (.agg (ad := ⟨b4, 0, none⟩) (cs := [(.string ByteArray.empty), (zi 0)]) (by kernel_rfl) (by kernel_rfl) (cells_sub (hs44.heapAt 0 rfl) rfl)) (.tmp (by kernel_rfl)) (.tmp (by kernel_rfl)))) ⟨_, ⟨rfl, rfl⟩, hs45⟩
   have h40p : ¬ (p37 = true) := ne_true_of_eq_false h40
   replace hm := ite_no hm h40p
   refine W.skip ?_
   refine hK36 _ _ ?_
   refine W.sr fun K46 hK46 => ?_
   refine zE 1 (hK46 _ _ ?_)
   refine W.seq_join (fun s_ w_ => ∃ (q49 : List Int) (m47 : Option Addr) (m48 : Nat), (∃ us, s_ = slots 100 [(4, (zp b4)), (10, (zu (vget img l r25))), (11, (zu (vget img l (r25 + 1)))), (12, (.slice m47 q49.length m48))] us) ∧ St B w [] w_ [zb b4 76 [(.string ByteArray.empty), (zi 0)], kU64.row m47 m48 q49] ∧ rAt15_J3 img l r25 q49 = some r) ?_ ?_
   ·
    rintro _ w50 ⟨q49, m47, m48, ⟨us, rfl⟩, hs51, hm⟩
    unfold rAt15_J3 at hm
    refine W.sr fun K52 hK52 => ?_
    refine zR 2 ?_
    obtain ⟨h53, hm⟩ := need_some hm
    refine zI _ (wrap_i64 h53.1 h53.2) ?_
    obtain ⟨r54, h55, hm⟩ := bind_some hm
    refine zC00 hs51 (runpack_walk (ws := q49) (n_ := (vget img l (r25 + 1))) (wa := m47) (wc := m48) (hw := (St.kcells kU64 hs51 1 rfl)) (hm := h55) B _) fun w56 hs58 => ?_
    refine zE 5 (hK52 _ _ ?_)
    refine W.seq fun K59 hK59 => ?_
    refine W.sr fun K60 hK60 => ?_
    refine zR 1 ?_
    obtain ⟨r61, h62, hm⟩ := bind_some hm
    refine zC00 hs58 (rmay15_walk (tx_ := r54.1) (hm := h62) B _) fun w63 hs65 => ?_
    refine zE 1 (hK60 _ _ ?_)
    refine W.cond (!r61) (by kernel_rfl) (fun h66 => ?_) (fun h66 => ?_)
    rotate_left
    ·
     have h66p : r61 = true := (bnot_false h66)
     replace hm := ite_yes hm h66p
     refine W.skip ?_
     refine hK59 _ _ ?_
     refine W.sr fun K67 hK67 => ?_
     refine zR 2 ?_
     obtain ⟨h68, hm⟩ := need_some hm
     refine zI _ (wrap_i64 h68.1 h68.2) ?_
     refine zR 1 ?_
     refine zT 0 [(.string r54.1), (zi (vget img l r25))] [(.string r54.1), (zi (vget img l r25))] hs65 fun w69 hs71 => ?_
     refine zE 2 (hK67 _ _ ?_)
     refine W.ret ?_
     obtain rfl := some_inj hm
     have hs72 := St.tk0 hs71
     refine ret_of (.tuple #[(.agg #[(.string r54.1), (zi (vget img l r25))]), (.bool true), (zi 0)]) (resS_of (by kernel_rfl) (resD_three rfl (.agg (ad := ⟨b4, 0, none⟩) (cs := [(.string r54.1), (zi (vget img l r25))]) (by kernel_rfl) (by kernel_rfl) (cells_sub (hs71.heapAt 0 rfl) rfl)) (.tmp (by kernel_rfl)) (.tmp (by kernel_rfl)))) ⟨_, ⟨rfl, rfl⟩, hs72⟩
    have h66p : ¬ (r61 = true) := ne_true_of_eq_false (bnot_true h66)
    replace hm := ite_no hm h66p
    refine W.sr fun K73 hK73 => ?_
    refine zR 1 ?_
    refine zT 0 [(.string ByteArray.empty), (zi 0)] [(.string ByteArray.empty), (zi 0)] hs65 fun w74 hs76 => ?_
    refine zE 2 (hK73 _ _ ?_)
    refine W.ret (ret_seq ?_)
    obtain rfl := some_inj hm
    have hs77 := St.tk0 hs76
    refine ret_of (.tuple #[(.agg #[(.string ByteArray.empty), (zi 0)]), (.bool false), (zi 4)]) (resS_of (by kernel_rfl) (resD_three rfl (.agg (ad := ⟨b4, 0, none⟩) (cs := [(.string ByteArray.empty), (zi 0)]) (by kernel_rfl) (by kernel_rfl) (cells_sub (hs76.heapAt 0 rfl) rfl)) (.tmp (by kernel_rfl)) (.tmp (by kernel_rfl)))) ⟨_, ⟨rfl, rfl⟩, hs77⟩
   refine W.sr fun K78 hK78 => ?_
   refine zE 1 (hK78 _ _ ?_)
   refine W.block ?_
   have hs87 := St.knil kU64 hs39
   have hs88 := St.f1 hs87
   refine W.loop_iter (G := (List Int) × Int × (Option Addr) × Nat) (σ := (List Int) × Int) (fun | (q81, p82, m79, m80) => (q81, p82)) (fun | (q81, p82, m79, m80), s_, w_ => (∃ us, s_ = slots 100 [(0, (zp mb)), (4, (zp b4)), (9, (zi r25)), (10, (zu (vget img l r25))), (11, (zu (vget img l (r25 + 1)))), (12, (.slice m79 q81.length m80)), (13, (zi p82))] us) ∧ St B w [] w_ [zb b4 76 [(.string ByteArray.empty), (zi 0)], kU64.row m79 m80 q81]) ([], 2, none, 0) ⟨slots_intro _ (by kernel_rfl), hs88⟩ hm ?_
   rintro k83 ih84 ⟨q81, p82, m79, m80⟩ _ w85 ⟨⟨us, rfl⟩, hs86⟩ hm
   replace hm : rAt15_B0 img l r25 k83 q81 p82 = some r := hm
   unfold rAt15_B0 at hm
   refine W.seq fun K89 hK89 => ?_
   refine W.sr fun K90 hK90 => ?_
   refine zE 2 (hK90 _ _ ?_)
   refine W.cond (decide (p82 < 8)) (by kernel_rfl) (fun h91 => ?_) (fun h91 => ?_)
   ·
    obtain ⟨h91p, hm⟩ := iY hm h91
    refine W.skip ?_
    refine hK89 _ _ ?_
    refine W.seq fun K92 hK92 => ?_
    refine W.block ?_
    refine W.region ?_
    refine zR 4 ?_
    refine zL ⟨mb, 0, none⟩ (zp vb) (cell_of_blk (hs86.old hmb) rfl) ?_
    refine zR 2 ?_
    obtain ⟨h93, hm⟩ := need_some hm
    refine zI _ (wrap_i64 h93.1 h93.2) ?_
    refine zC00 hs86 (rget_spec (at_ := (r25 + p82)) (hv := (refAt_old hs86 hv)) B _) fun w94 hs96 => ?_
    refine ops_new (fun b => .slice (some ⟨b, 0, none⟩) 1 1) (.cells [(zu (vget img l (r25 + p82)))].toArray 34 (0, 0)) hs96 (by kernel_rfl) (fun b99 w97 hs98 => ?_)
    have hs100 := St.f2 hs98
    obtain ⟨h105, hm⟩ := need_some hm
    refine ops_appendK kU64 (bytes := 8) (a' := (some ⟨b99, 0, none⟩)) (c' := 1) (l := q81) (m := [(vget img l (r25 + p82))]) hs100 (by kernel_rfl) (by simp) (cells_blk (hs100.heapAt 1 rfl)) (by unfold maxLen; (try simp only [List.length_cons, List.length_nil]); omega) (by (try simp only [List.length_cons, List.length_nil]); omega) (fun a101 c102 w103 hs104 => ?_)
    refine zE 1 ?_
    refine normal_block ?_
    refine hK92 _ _ ?_
    refine W.region ?_
    refine zR 1 ?_
    obtain ⟨h106, hm⟩ := need_some hm
    refine zI _ (wrap_i64 h106.1 h106.2) ?_
    refine zE 1 ?_
    have hs107 := St.f2 hs104
    have hs108 := St.tk2 hs107
    refine loopAt_next ?_
    exact ih84 ((q81 ++ [(vget img l (r25 + p82))]), (p82 + 1), a101, c102) _ _ ⟨slots_intro _ (by kernel_rfl), hs108⟩ hm
   obtain ⟨h91p, hm⟩ := iN hm h91
   refine W.exit (exit_seq (exit_seq (exit_here ?_)))
   exact ⟨q81, m79, m80, slots_intro _ (by kernel_rfl), hs86, hm⟩
  refine W.region ?_
  refine zR 3 ?_
  rcases Bool.eq_false_or_eq_true (decide ((vget img l r25) < 1)) with h109 | h109
  ·
   obtain ⟨h109p, hm⟩ := iY hm h109
   refine zS 51 h109 ?_
   refine zS 50 h109 ?_
   refine zE 17 ?_
   exact ⟨true, slots_intro _ (by kernel_rfl), hs35, hm⟩
  obtain ⟨h109p, hm⟩ := iN hm h109
  refine zS 51 h109 ?_
  refine zS 50 h109 ?_
  refine zR 5 ?_
  refine zL ⟨mb, 2, none⟩ (zi gi) (cell_of_blk (hs35.old hmb) rfl) ?_
  obtain ⟨h110, hm⟩ := need_some hm
  refine zI _ (wrap_u64 h110.1 (Int.lt_of_le_of_lt h110.2 (by decide))) ?_
  refine zR 3 ?_
  rcases Bool.eq_false_or_eq_true (decide ((vget img l r25) ≥ gi)) with h111 | h111
  ·
   obtain ⟨h111p, hm⟩ := iY hm h111
   refine zS 61 h111 ?_
   refine zS 59 h111 ?_
   refine zS 60 h111 ?_
   refine zE 7 ?_
   exact ⟨true, slots_intro _ (by kernel_rfl), hs35, hm⟩
  obtain ⟨h111p, hm⟩ := iN hm h111
  refine zS 61 h111 ?_
  refine zS 59 h111 ?_
  refine zS 60 h111 ?_
  refine zR 4 ?_
  rcases Bool.eq_false_or_eq_true (decide ((vget img l (r25 + 1)) < 1)) with h112 | h112
  ·
   obtain ⟨h112p, hm⟩ := iY hm h112
   refine zS 65 h112 ?_
   refine zS 63 h112 ?_
   refine zS 64 h112 ?_
   refine zE 3 ?_
   exact ⟨true, slots_intro _ (by kernel_rfl), hs35, hm⟩
  obtain ⟨h112p, hm⟩ := iN hm h112
  refine zS 65 h112 ?_
  refine zS 63 h112 ?_
  refine zS 64 h112 ?_
  refine zE 3 ?_
  exact ⟨(decide ((vget img l (r25 + 1)) > 40)), slots_intro _ (by kernel_rfl), hs35, hm⟩
 refine W.region ?_
 refine zR 3 ?_
 rcases Bool.eq_false_or_eq_true (!decide (r6.2 = 0)) with h113 | h113
 rotate_left
 ·
  have h113p : r6.2 = 0 := of_decide_eq_true (bnot_false h113)
  replace hm := ite_yes hm h113p
  refine zS 24 h113 ?_
  refine zS 23 h113 ?_
  refine zE 3 ?_
  exact ⟨(decide (r6.1 = 0)), slots_intro _ (by kernel_rfl), hs10, hm⟩
 have h113p : ¬ (r6.2 = 0) := of_decide_eq_false (bnot_true h113)
 replace hm := ite_no hm h113p
 refine zS 24 h113 ?_
 refine zS 23 h113 ?_
 refine zE 3 ?_
 exact ⟨true, slots_intro _ (by kernel_rfl), hs10, hm⟩
end Go.Proofs.YtmmclabkkigiaaaGreat

set_option maxRecDepth 20000
set_option maxHeartbeats 2000000
namespace Go.Proofs.YtmmclabkkigiaaaGreat
open Go Go.RowKit
theorem rdir_ok {b : Nat} {img : List Int} {l : List (Int × Int)} {gw gi gb n_ : Int} (B : Nat) (w : World) (hv : RefAt (ptr b) img l w) (hP : (igetM img l gw gi gb n_).2 = 0) (hK : (igetM img l gw gi gb n_).1.k = 2) : Spec Tryz.prog 82 #[(zp b), (.agg #[(zi gw), (zi gi), (zi gb)]), (zi n_)] B w [] (fun v H' => ∃ mb, v = (.tuple #[(zp mb), (zi 0)]) ∧ H' = [zb mb 123 [(zp b), (zi gw), (zi gi), (zi gb), (zi n_)]]) := by
 refine spec_Q Tryz.func82 rfl fun hs => ?_
 refine W.sr fun K1 hK1 => ?_
 refine zN [(zi gw), (zi gi), (zi gb)] 37 hs fun b4 w2 hs3 => ?_
 refine zE 2 (hK1 _ _ ?_)
 refine W.sr fun K5 hK5 => ?_
 refine zR 1 ?_
 refine zG ⟨b4, 0, none⟩ [(zi gw), (zi gi), (zi gb)] (cells_sub (hs3.heapAt 0 rfl) rfl) ?_
 refine zR 1 ?_
 refine zC00 hs3 (rg_spec (gw := gw) (gi := gi) (gb := gb) (n_ := n_) (hv := (refAt_old hs3 hv)) B _) fun w6 hs8 => ?_
 refine zR 3 ?_
 refine zN [(zu 0), (zu 0), (zu 0), (zu 0), (zu 0), (zu 0), (zu 0), (zu 0), (zu 0), (zu 0)] 77 hs8 fun b11 w9 hs10 => ?_
 refine zT 0 [(zu ((igetM img l gw gi gb n_).1.k)), (zu ((igetM img l gw gi gb n_).1.l)), (zu ((igetM img l gw gi gb n_).1.o)), (zu ((igetM img l gw gi gb n_).1.s)), (zu ((igetM img l gw gi gb n_).1.a)), (zu ((igetM img l gw gi gb n_).1.b)), (zu ((igetM img l gw gi gb n_).1.c)), (zu ((igetM img l gw gi gb n_).1.d)), (zu ((igetM img l gw gi gb n_).1.e)), (zu ((igetM img l gw gi gb n_).1.m))] [(zu ((igetM img l gw gi gb n_).1.k)), (zu ((igetM img l gw gi gb n_).1.l)), (zu ((igetM img l gw gi gb n_).1.o)), (zu ((igetM img l gw gi gb n_).1.s)), (zu ((igetM img l gw gi gb n_).1.a)), (zu ((igetM img l gw gi gb n_).1.b)), (zu ((igetM img l gw gi gb n_).1.c)), (zu ((igetM img l gw gi gb n_).1.d)), (zu ((igetM img l gw gi gb n_).1.e)), (zu ((igetM img l gw gi gb n_).1.m))] hs10 fun w12 hs14 => ?_
 refine zE 1 (hK5 _ _ ?_)
 refine W.seq fun K15 hK15 => ?_
 refine W.sr fun K16 hK16 => ?_
 refine zE 2 (hK16 _ _ ?_)
 refine W.cond (!decide ((igetM img l gw gi gb n_).2 = 0)) (by kernel_rfl) (fun h17 => ?_) (fun h17 => ?_)
 ·
  have h17p : ¬ ((igetM img l gw gi gb n_).2 = 0) := of_decide_eq_false (bnot_true h17)
  refine W.sr fun K18 hK18 => ?_
  refine zE 3 (hK18 _ _ ?_)
  refine W.ret (ret_seq ?_)
  exfalso; omega
 have h17p : (igetM img l gw gi gb n_).2 = 0 := of_decide_eq_true (bnot_false h17)
 refine W.skip ?_
 refine hK15 _ _ ?_
 refine W.seq fun K19 hK19 => ?_
 refine W.sr fun K20 hK20 => ?_
 refine zR 1 ?_
 refine zL ⟨b11, 0, none⟩ (zu ((igetM img l gw gi gb n_).1.k)) (hs14.cellAt 0 rfl rfl) ?_
 refine zE 1 (hK20 _ _ ?_)
 refine W.cond (!decide ((igetM img l gw gi gb n_).1.k = 2)) (by kernel_rfl) (fun h21 => ?_) (fun h21 => ?_)
 ·
  have h21p : ¬ ((igetM img l gw gi gb n_).1.k = 2) := of_decide_eq_false (bnot_true h21)
  refine W.sr fun K22 hK22 => ?_
  refine zE 2 (hK22 _ _ ?_)
  refine W.ret (ret_seq ?_)
  exfalso; omega
 have h21p : (igetM img l gw gi gb n_).1.k = 2 := of_decide_eq_true (bnot_false h21)
 refine W.skip ?_
 refine hK19 _ _ ?_
 refine W.sr fun K23 hK23 => ?_
 refine zR 1 ?_
 refine zG ⟨b4, 0, none⟩ [(zi gw), (zi gi), (zi gb)] (cells_sub (hs14.heapAt 1 rfl) rfl) ?_
 refine zR 2 ?_
 refine zN [(zp b), (zi gw), (zi gi), (zi gb), (zi n_)] 123 hs14 fun b26 w24 hs25 => ?_
 refine zE 2 (hK23 _ _ ?_)
 refine W.ret ?_
 have hs27 := St.tk1 hs25
 refine ret_of (.tuple #[(zp b26), (zi 0)]) (by kernel_rfl) ⟨_, ⟨b26, rfl, rfl⟩, hs27⟩
theorem rdir_dir {b : Nat} {img : List Int} {l : List (Int × Int)} {gw gi gb n_ : Int} (B : Nat) (w : World) (hv : RefAt (ptr b) img l w) (hP : (igetM img l gw gi gb n_).2 = 0) (hK : ¬ ((igetM img l gw gi gb n_).1.k = 2)) : Spec Tryz.prog 82 #[(zp b), (.agg #[(zi gw), (zi gi), (zi gb)]), (zi n_)] B w [] (fun v H' => v = (.tuple #[(.pointer none), (zi 10)]) ∧ H' = []) := by
 refine spec_Q Tryz.func82 rfl fun hs => ?_
 refine W.sr fun K1 hK1 => ?_
 refine zN [(zi gw), (zi gi), (zi gb)] 37 hs fun b4 w2 hs3 => ?_
 refine zE 2 (hK1 _ _ ?_)
 refine W.sr fun K5 hK5 => ?_
 refine zR 1 ?_
 refine zG ⟨b4, 0, none⟩ [(zi gw), (zi gi), (zi gb)] (cells_sub (hs3.heapAt 0 rfl) rfl) ?_
 refine zR 1 ?_
 refine zC00 hs3 (rg_spec (gw := gw) (gi := gi) (gb := gb) (n_ := n_) (hv := (refAt_old hs3 hv)) B _) fun w6 hs8 => ?_
 refine zR 3 ?_
 refine zN [(zu 0), (zu 0), (zu 0), (zu 0), (zu 0), (zu 0), (zu 0), (zu 0), (zu 0), (zu 0)] 77 hs8 fun b11 w9 hs10 => ?_
 refine zT 0 [(zu ((igetM img l gw gi gb n_).1.k)), (zu ((igetM img l gw gi gb n_).1.l)), (zu ((igetM img l gw gi gb n_).1.o)), (zu ((igetM img l gw gi gb n_).1.s)), (zu ((igetM img l gw gi gb n_).1.a)), (zu ((igetM img l gw gi gb n_).1.b)), (zu ((igetM img l gw gi gb n_).1.c)), (zu ((igetM img l gw gi gb n_).1.d)), (zu ((igetM img l gw gi gb n_).1.e)), (zu ((igetM img l gw gi gb n_).1.m))] [(zu ((igetM img l gw gi gb n_).1.k)), (zu ((igetM img l gw gi gb n_).1.l)), (zu ((igetM img l gw gi gb n_).1.o)), (zu ((igetM img l gw gi gb n_).1.s)), (zu ((igetM img l gw gi gb n_).1.a)), (zu ((igetM img l gw gi gb n_).1.b)), (zu ((igetM img l gw gi gb n_).1.c)), (zu ((igetM img l gw gi gb n_).1.d)), (zu ((igetM img l gw gi gb n_).1.e)), (zu ((igetM img l gw gi gb n_).1.m))] hs10 fun w12 hs14 => ?_
 refine zE 1 (hK5 _ _ ?_)
 refine W.seq fun K15 hK15 => ?_
 refine W.sr fun K16 hK16 => ?_
 refine zE 2 (hK16 _ _ ?_)
 refine W.cond (!decide ((igetM img l gw gi gb n_).2 = 0)) (by kernel_rfl) (fun h17 => ?_) (fun h17 => ?_)
 ·
  have h17p : ¬ ((igetM img l gw gi gb n_).2 = 0) := of_decide_eq_false (bnot_true h17)
  refine W.sr fun K18 hK18 => ?_
  refine zE 3 (hK18 _ _ ?_)
  refine W.ret (ret_seq ?_)
  exfalso; omega
 have h17p : (igetM img l gw gi gb n_).2 = 0 := of_decide_eq_true (bnot_false h17)
 refine W.skip ?_
 refine hK15 _ _ ?_
 refine W.seq fun K19 hK19 => ?_
 refine W.sr fun K20 hK20 => ?_
 refine zR 1 ?_
 refine zL ⟨b11, 0, none⟩ (zu ((igetM img l gw gi gb n_).1.k)) (hs14.cellAt 0 rfl rfl) ?_
 refine zE 1 (hK20 _ _ ?_)
 refine W.cond (!decide ((igetM img l gw gi gb n_).1.k = 2)) (by kernel_rfl) (fun h21 => ?_) (fun h21 => ?_)
 ·
  have h21p : ¬ ((igetM img l gw gi gb n_).1.k = 2) := of_decide_eq_false (bnot_true h21)
  refine W.sr fun K22 hK22 => ?_
  refine zE 2 (hK22 _ _ ?_)
  refine W.ret (ret_seq ?_)
  have hs23 := St.tk0 hs14
  refine ret_of (.tuple #[(.pointer none), (zi 10)]) (by kernel_rfl) ⟨_, ⟨rfl, rfl⟩, hs23⟩
 have h21p : (igetM img l gw gi gb n_).1.k = 2 := of_decide_eq_true (bnot_false h21)
 refine W.skip ?_
 refine hK19 _ _ ?_
 refine W.sr fun K24 hK24 => ?_
 refine zR 1 ?_
 refine zG ⟨b4, 0, none⟩ [(zi gw), (zi gi), (zi gb)] (cells_sub (hs14.heapAt 1 rfl) rfl) ?_
 refine zR 2 ?_
 refine zN [(zp b), (zi gw), (zi gi), (zi gb), (zi n_)] 123 hs14 fun b27 w25 hs26 => ?_
 refine zE 2 (hK24 _ _ ?_)
 refine W.ret ?_
 exfalso; omega
theorem rdir_err {b : Nat} {img : List Int} {l : List (Int × Int)} {gw gi gb n_ : Int} (B : Nat) (w : World) (hv : RefAt (ptr b) img l w) (hN : ¬ ((igetM img l gw gi gb n_).2 = 0)) : Spec Tryz.prog 82 #[(zp b), (.agg #[(zi gw), (zi gi), (zi gb)]), (zi n_)] B w [] (fun v H' => v = (.tuple #[(.pointer none), (zi ((igetM img l gw gi gb n_).2))]) ∧ H' = []) := by
 refine spec_Q Tryz.func82 rfl fun hs => ?_
 refine W.sr fun K1 hK1 => ?_
 refine zN [(zi gw), (zi gi), (zi gb)] 37 hs fun b4 w2 hs3 => ?_
 refine zE 2 (hK1 _ _ ?_)
 refine W.sr fun K5 hK5 => ?_
 refine zR 1 ?_
 refine zG ⟨b4, 0, none⟩ [(zi gw), (zi gi), (zi gb)] (cells_sub (hs3.heapAt 0 rfl) rfl) ?_
 refine zR 1 ?_
 refine zC00 hs3 (rg_spec (gw := gw) (gi := gi) (gb := gb) (n_ := n_) (hv := (refAt_old hs3 hv)) B _) fun w6 hs8 => ?_
 refine zR 3 ?_
 refine zN [(zu 0), (zu 0), (zu 0), (zu 0), (zu 0), (zu 0), (zu 0), (zu 0), (zu 0), (zu 0)] 77 hs8 fun b11 w9 hs10 => ?_
 refine zT 0 [(zu ((igetM img l gw gi gb n_).1.k)), (zu ((igetM img l gw gi gb n_).1.l)), (zu ((igetM img l gw gi gb n_).1.o)), (zu ((igetM img l gw gi gb n_).1.s)), (zu ((igetM img l gw gi gb n_).1.a)), (zu ((igetM img l gw gi gb n_).1.b)), (zu ((igetM img l gw gi gb n_).1.c)), (zu ((igetM img l gw gi gb n_).1.d)), (zu ((igetM img l gw gi gb n_).1.e)), (zu ((igetM img l gw gi gb n_).1.m))] [(zu ((igetM img l gw gi gb n_).1.k)), (zu ((igetM img l gw gi gb n_).1.l)), (zu ((igetM img l gw gi gb n_).1.o)), (zu ((igetM img l gw gi gb n_).1.s)), (zu ((igetM img l gw gi gb n_).1.a)), (zu ((igetM img l gw gi gb n_).1.b)), (zu ((igetM img l gw gi gb n_).1.c)), (zu ((igetM img l gw gi gb n_).1.d)), (zu ((igetM img l gw gi gb n_).1.e)), (zu ((igetM img l gw gi gb n_).1.m))] hs10 fun w12 hs14 => ?_
 refine zE 1 (hK5 _ _ ?_)
 refine W.seq fun K15 hK15 => ?_
 refine W.sr fun K16 hK16 => ?_
 refine zE 2 (hK16 _ _ ?_)
 refine W.cond (!decide ((igetM img l gw gi gb n_).2 = 0)) (by kernel_rfl) (fun h17 => ?_) (fun h17 => ?_)
 ·
  have h17p : ¬ ((igetM img l gw gi gb n_).2 = 0) := of_decide_eq_false (bnot_true h17)
  refine W.sr fun K18 hK18 => ?_
  refine zE 3 (hK18 _ _ ?_)
  refine W.ret (ret_seq ?_)
  have hs19 := St.tk0 hs14
  refine ret_of (.tuple #[(.pointer none), (zi ((igetM img l gw gi gb n_).2))]) (by kernel_rfl) ⟨_, ⟨rfl, rfl⟩, hs19⟩
 have h17p : (igetM img l gw gi gb n_).2 = 0 := of_decide_eq_true (bnot_false h17)
 refine W.skip ?_
 refine hK15 _ _ ?_
 refine W.seq fun K20 hK20 => ?_
 refine W.sr fun K21 hK21 => ?_
 refine zR 1 ?_
 refine zL ⟨b11, 0, none⟩ (zu ((igetM img l gw gi gb n_).1.k)) (hs14.cellAt 0 rfl rfl) ?_
 refine zE 1 (hK21 _ _ ?_)
 refine W.cond (!decide ((igetM img l gw gi gb n_).1.k = 2)) (by kernel_rfl) (fun h22 => ?_) (fun h22 => ?_)
 ·
  have h22p : ¬ ((igetM img l gw gi gb n_).1.k = 2) := of_decide_eq_false (bnot_true h22)
  refine W.sr fun K23 hK23 => ?_
  refine zE 2 (hK23 _ _ ?_)
  refine W.ret (ret_seq ?_)
  exfalso; omega
 have h22p : (igetM img l gw gi gb n_).1.k = 2 := of_decide_eq_true (bnot_false h22)
 refine W.skip ?_
 refine hK20 _ _ ?_
 refine W.sr fun K24 hK24 => ?_
 refine zR 1 ?_
 refine zG ⟨b4, 0, none⟩ [(zi gw), (zi gi), (zi gb)] (cells_sub (hs14.heapAt 1 rfl) rfl) ?_
 refine zR 2 ?_
 refine zN [(zp b), (zi gw), (zi gi), (zi gb), (zi n_)] 123 hs14 fun b27 w25 hs26 => ?_
 refine zE 2 (hK24 _ _ ?_)
 refine W.ret ?_
 exfalso; omega
end Go.Proofs.YtmmclabkkigiaaaGreat

set_option maxRecDepth 20000
set_option maxHeartbeats 4000000
namespace Go.Proofs.YtmmclabkkigiaaaGreat
open Go Go.RowKit
def rFind15_J1  : Option (ByteArray × Int × Int × Int) :=
 some (ByteArray.empty, 0, 0, 6)
def rFind15_J3 (k35 : Int → Option (ByteArray × Int × Int × Int)) (p34 : Int) (r48 : Int) (r55 : ByteArray × Int × Bool × Int) (p69 : Bool) : Option (ByteArray × Int × Int × Int) :=
 if p69 = true then (some (r55.1, r55.2.1, (r48 + p34).tmod 12, 0)) else (need (-9223372036854775808 ≤ (p34 + 1) ∧ (p34 + 1) ≤ 9223372036854775807) <|
k35 (p34 + 1))
def rFind15_B0 (img : List Int) (l : List (Int × Int)) (gw : Int) (gi : Int) (gb : Int) (n_ : Int) (tx_ : ByteArray) (k35 : Int → Option (ByteArray × Int × Int × Int)) (p34 : Int) : Option (ByteArray × Int × Int × Int) :=
 if p34 < 12 then ((rbegin15_M tx_).bind fun r48 =>
need (-9223372036854775808 ≤ (r48 + p34) ∧ (r48 + p34) ≤ 9223372036854775807) <|
(rAt15_M img l gw gi gb n_ ((r48 + p34).tmod 12)).bind fun r55 =>
if r55.2.2.2 = 0 then (if r55.2.2.1 = true then (rFind15_J3 k35 p34 r48 r55 (r55.1.toList == tx_.toList)) else (rFind15_J3 k35 p34 r48 r55 false)) else (some (ByteArray.empty, 0, 0, r55.2.2.2))) else (rFind15_J1)
def rFind15_M (img : List Int) (l : List (Int × Int)) (gw : Int) (gi : Int) (gb : Int) (n_ : Int) (tx_ : ByteArray) : Option (ByteArray × Int × Int × Int) :=
 if (igetM img l gw gi gb n_).2 = 0 then (if (igetM img l gw gi gb n_).1.k = 2 then ((rmay15_M tx_).bind fun r19 =>
if r19 = true then (iter (fun k_ s_ => rFind15_B0 img l gw gi gb n_ tx_ k_ s_) FUEL 0) else (some (ByteArray.empty, 0, 0, 13))) else (some (ByteArray.empty, 0, 0, 10))) else ((some ((igetM img l gw gi gb n_).2)).bind fun r124 =>
if r124 = 0 then (none) else (some (ByteArray.empty, 0, 0, r124)))
theorem rFind15_walk {img : List Int} {l : List (Int × Int)} {gw : Int} {gi : Int} {gb : Int} {n_ : Int} {tx_ : ByteArray} {vb : Nat} {r : ByteArray × Int × Int × Int} (B : Nat) (w : World) (hm : rFind15_M img l gw gi gb n_ tx_ = some r) : Spec Tryz.prog 50 #[(zp vb), (.agg #[(zi gw), (zi gi), (zi gb)]), (zi n_), (.string tx_)] B w [refA (ptr vb) img l] (fun v H' => v = (.tuple #[(.agg #[(.string r.1), (zi r.2.1)]), (zi r.2.2.1), (zi r.2.2.2)]) ∧ H' = [refA (ptr vb) img l]) := by
 refine spec_W Tryz.func50 rfl fun l0 hs => ?_
 unfold rFind15_M at hm
 refine W.sr fun K1 hK1 => ?_
 refine zN [(zi gw), (zi gi), (zi gb)] 37 hs fun b4 w2 hs3 => ?_
 refine zN [(.string ByteArray.empty), (zi 0)] 76 hs3 fun b7 w5 hs6 => ?_
 refine zE 2 (hK1 _ _ ?_)
 refine W.sr fun K8 hK8 => ?_
 refine zR 1 ?_
 refine zG ⟨b4, 0, none⟩ [(zi gw), (zi gi), (zi gb)] (cells_sub (hs6.heapAt 1 rfl) rfl) ?_
 refine zR 1 ?_
 rcases Bool.eq_false_or_eq_true (decide ((igetM img l gw gi gb n_).2 = 0)) with h9 | h9
 ·
  obtain ⟨h9p, hm⟩ := iY hm h9
  rcases Bool.eq_false_or_eq_true (decide ((igetM img l gw gi gb n_).1.k = 2)) with h10 | h10
  ·
   obtain ⟨h10p, hm⟩ := iY hm h10
   refine ops_call0 hs6 (by kernel_rfl) (rdir_ok (gw := gw) (gi := gi) (gb := gb) (n_ := n_) (hv := (hs6.entAt 2 rfl refA_at)) (hP := h9p) (hK := h10p) B _) ?_
   rintro _ _ w12 ⟨b11, rfl, rfl⟩ hs13
   have hs14 := St.ap1 hs13
   refine zE 5 (hK8 _ _ ?_)
   refine W.seq fun K15 hK15 => ?_
   refine W.sr fun K16 hK16 => ?_
   refine zE 2 (hK16 _ _ ?_)
   refine W.cond_false false (by kernel_rfl) rfl ?_
   refine W.skip ?_
   refine hK15 _ _ ?_
   refine W.seq fun K17 hK17 => ?_
   refine W.sr fun K18 hK18 => ?_
   refine zR 1 ?_
   obtain ⟨r19, h20, hm⟩ := bind_some hm
   refine zC00 hs14 (rmay15_walk (tx_ := tx_) (hm := h20) B _) fun w21 hs23 => ?_
   refine zE 1 (hK18 _ _ ?_)
   refine W.cond (!r19) (by kernel_rfl) (fun h24 => ?_) (fun h24 => ?_)
   rotate_left
   ·
    have h24p : r19 = true := (bnot_false h24)
    replace hm := ite_yes hm h24p
    refine W.skip ?_
    refine hK17 _ _ ?_
    refine W.seq_join (fun s_ w_ => (∃ us, s_ = slots 63 [(8, (zp b7))] us) ∧ St B w l0 w_ [zb b7 76 [(.string ByteArray.empty), (zi 0)], refA (ptr vb) img l, zb b11 123 [(zp vb), (zi gw), (zi gi), (zi gb), (zi n_)], zb b4 37 [(zi gw), (zi gi), (zi gb)]] ∧ rFind15_J1 = some r) ?_ ?_
    ·
     rintro _ w25 ⟨⟨us, rfl⟩, hs26, hm⟩
     unfold rFind15_J1 at hm
     refine W.sr fun K27 hK27 => ?_
     refine zR 1 ?_
     refine zT 0 [(.string ByteArray.empty), (zi 0)] [(.string ByteArray.empty), (zi 0)] hs26 fun w28 hs30 => ?_
     refine zE 2 (hK27 _ _ ?_)
     refine W.ret ?_
     obtain rfl := some_inj hm
     have hs31 := St.f1 hs30
     have hs32 := St.tk1 hs31
     refine ret_of (.tuple #[(.agg #[(.string ByteArray.empty), (zi 0)]), (zi 0), (zi 6)]) (resS_of (by kernel_rfl) (resD_three rfl (.agg (ad := ⟨b7, 0, none⟩) (cs := [(.string ByteArray.empty), (zi 0)]) (by kernel_rfl) (by kernel_rfl) (cells_sub (hs30.heapAt 0 rfl) rfl)) (.tmp (by kernel_rfl)) (.tmp (by kernel_rfl)))) ⟨_, ⟨rfl, rfl⟩, hs32⟩
    refine W.sr fun K33 hK33 => ?_
    refine zE 1 (hK33 _ _ ?_)
    refine W.block ?_
    have hs39 := St.f2 hs23
    have hs40 := St.f1 hs39
    have hs41 := St.f3 hs40
    have hs42 := St.f3 hs41
    refine W.loop_iter (G := Int) (σ := Int) (fun | p34 => p34) (fun | p34, s_, w_ => (∃ us, s_ = slots 63 [(3, (.string tx_)), (8, (zp b7)), (11, (zp b11)), (13, (zi p34))] us) ∧ St B w l0 w_ [zb b7 76 [(.string ByteArray.empty), (zi 0)], refA (ptr vb) img l, zb b11 123 [(zp vb), (zi gw), (zi gi), (zi gb), (zi n_)], zb b4 37 [(zi gw), (zi gi), (zi gb)]]) 0 ⟨slots_intro _ (by kernel_rfl), hs42⟩ hm ?_
    rintro k35 ih36 p34 _ w37 ⟨⟨us, rfl⟩, hs38⟩ hm
    replace hm : rFind15_B0 img l gw gi gb n_ tx_ k35 p34 = some r := hm
    unfold rFind15_B0 at hm
    refine W.seq fun K43 hK43 => ?_
    refine W.sr fun K44 hK44 => ?_
    refine zE 2 (hK44 _ _ ?_)
    refine W.cond (decide (p34 < 12)) (by kernel_rfl) (fun h45 => ?_) (fun h45 => ?_)
    ·
     obtain ⟨h45p, hm⟩ := iY hm h45
     refine W.skip ?_
     refine hK43 _ _ ?_
     refine W.seq fun K46 hK46 => ?_
     refine W.block ?_
     refine W.sr fun K47 hK47 => ?_
     refine zR 1 ?_
     obtain ⟨r48, h49, hm⟩ := bind_some hm
     refine zC00 hs38 (rbegin15_walk (tx_ := tx_) (hm := h49) B _) fun w50 hs52 => ?_
     refine zR 1 ?_
     obtain ⟨h53, hm⟩ := need_some hm
     refine zI _ (wrap_i64 h53.1 h53.2) ?_
     refine zE 2 (hK47 _ _ ?_)
     refine W.sr fun K54 hK54 => ?_
     refine zR 2 ?_
     obtain ⟨r55, h56, hm⟩ := bind_some hm
     refine zC00 hs52 (rAt15_walk (k_ := (r48 + p34).tmod 12) (img := img) (l := l) (gw := gw) (gi := gi) (gb := gb) (n_ := n_) (hmb := (hs52.heapAt 2 rfl)) (hv := (hs52.entAt 1 rfl refA_at)) (hm := h56) B _) fun w57 hs59 => ?_
     refine zR 4 ?_
     refine zN [(.string ByteArray.empty), (zi 0)] 76 hs59 fun b62 w60 hs61 => ?_
     refine zT 0 [(.string r55.1), (zi r55.2.1)] [(.string r55.1), (zi r55.2.1)] hs61 fun w63 hs65 => ?_
     refine zE 2 (hK54 _ _ ?_)
     refine W.seq fun K66 hK66 => ?_
     refine W.sr fun K67 hK67 => ?_
     refine zE 2 (hK67 _ _ ?_)
     refine W.cond (!decide (r55.2.2.2 = 0)) (by kernel_rfl) (fun h68 => ?_) (fun h68 => ?_)
     rotate_left
     ·
      have h68p : r55.2.2.2 = 0 := of_decide_eq_true (bnot_false h68)
      replace hm := ite_yes hm h68p
      refine W.skip ?_
      refine hK66 _ _ ?_
      refine W.seq_join (fun s_ w_ => ∃ (p69 : Bool), (∃ us, s_ = slots 63 [(3, (.string tx_)), (8, (zp b7)), (11, (zp b11)), (13, (zi p34)), (14, (zi ((r48 + p34).tmod 12))), (15, (zp b62)), (59, (.bool p69))] us) ∧ St B w l0 w_ [zb b7 76 [(.string ByteArray.empty), (zi 0)], refA (ptr vb) img l, zb b11 123 [(zp vb), (zi gw), (zi gi), (zi gb), (zi n_)], zb b62 76 [(.string r55.1), (zi r55.2.1)], zb b4 37 [(zi gw), (zi gi), (zi gb)]] ∧ rFind15_J3 k35 p34 r48 r55 p69 = some r) ?_ ?_
      ·
       rintro _ w70 ⟨p69, ⟨us, rfl⟩, hs71, hm⟩
       unfold rFind15_J3 at hm
       refine W.cond p69 (by kernel_rfl) (fun h72 => ?_) (fun h72 => ?_)
       ·
        have h72p : p69 = true := h72
        replace hm := ite_yes hm h72p
        refine W.sr fun K73 hK73 => ?_
        refine zG ⟨b62, 0, none⟩ [(.string r55.1), (zi r55.2.1)] (cells_sub (hs71.heapAt 3 rfl) rfl) ?_
        refine zR 1 ?_
        refine zT 0 [(.string r55.1), (zi r55.2.1)] [(.string r55.1), (zi r55.2.1)] hs71 fun w74 hs76 => ?_
        refine zE 2 (hK73 _ _ ?_)
        refine W.ret (ret_block (ret_seq (ret_seq (ret_block (ret_seq ?_)))))
        obtain rfl := some_inj hm
        have hs77 := St.f1 hs76
        have hs78 := St.tk1 hs77
        refine ret_of (.tuple #[(.agg #[(.string r55.1), (zi r55.2.1)]), (zi ((r48 + p34).tmod 12)), (zi 0)]) (resS_of (by kernel_rfl) (resD_three rfl (.agg (ad := ⟨b7, 0, none⟩) (cs := [(.string r55.1), (zi r55.2.1)]) (by kernel_rfl) (by kernel_rfl) (cells_sub (hs76.heapAt 0 rfl) rfl)) (.tmp (by kernel_rfl)) (.tmp (by kernel_rfl)))) ⟨_, ⟨rfl, rfl⟩, hs78⟩
       have h72p : ¬ (p69 = true) := ne_true_of_eq_false h72
       replace hm := ite_no hm h72p
       refine W.skip ?_
       refine normal_block ?_
       refine hK46 _ _ ?_
       refine W.region ?_
       refine zR 1 ?_
       obtain ⟨h79, hm⟩ := need_some hm
       refine zI _ (wrap_i64 h79.1 h79.2) ?_
       refine zE 1 ?_
       have hs80 := St.f4 hs71
       have hs81 := St.f3 hs80
       have hs82 := St.f3 hs81
       have hs83 := St.f3 hs82
       have hs84 := St.tk4 hs83
       refine loopAt_next ?_
       exact ih36 (p34 + 1) _ _ ⟨slots_intro _ (by kernel_rfl), hs84⟩ hm
      refine W.region ?_
      refine zR 2 ?_
      rcases Bool.eq_false_or_eq_true r55.2.2.1 with h85 | h85
      ·
       have h85p : r55.2.2.1 = true := h85
       replace hm := ite_yes hm h85p
       refine zS 54 h85 ?_
       refine zS 47 h85 ?_
       refine zS 16 h85 ?_
       refine zS 53 h85 ?_
       refine zR 1 ?_
       refine zL ⟨b62, 0, none⟩ (.string r55.1) (hs65.cellAt 0 rfl rfl) ?_
       refine zE 3 ?_
       have hs86 := St.f4 hs65
       have hs87 := St.f1 hs86
       have hs88 := St.f4 hs87
       have hs89 := St.f4 hs88
       have hs90 := St.f4 hs89
       exact ⟨(r55.1.toList == tx_.toList), slots_intro _ (by kernel_rfl), hs90, hm⟩
      have h85p : ¬ (r55.2.2.1 = true) := ne_true_of_eq_false h85
      replace hm := ite_no hm h85p
      refine zS 54 h85 ?_
      refine zS 47 h85 ?_
      refine zS 16 h85 ?_
      refine zS 53 h85 ?_
      refine zE 5 ?_
      have hs91 := St.f4 hs65
      have hs92 := St.f1 hs91
      have hs93 := St.f4 hs92
      have hs94 := St.f4 hs93
      have hs95 := St.f4 hs94
      exact ⟨false, slots_intro _ (by kernel_rfl), hs95, hm⟩
     have h68p : ¬ (r55.2.2.2 = 0) := of_decide_eq_false (bnot_true h68)
     replace hm := ite_no hm h68p
     refine W.sr fun K96 hK96 => ?_
     refine zR 2 ?_
     have hs99 := St.f1 hs65
     refine zT 0 [(.string ByteArray.empty), (zi 0)] [(.string ByteArray.empty), (zi 0)] hs99 fun w97 hs100 => ?_
     refine zE 2 (hK96 _ _ ?_)
     refine W.ret (ret_seq (ret_block (ret_seq (ret_seq (ret_block (ret_seq ?_))))))
     obtain rfl := some_inj hm
     have hs101 := St.f2 hs100
     have hs102 := St.tk1 hs101
     refine ret_of (.tuple #[(.agg #[(.string ByteArray.empty), (zi 0)]), (zi 0), (zi r55.2.2.2)]) (resS_of (by kernel_rfl) (resD_three rfl (.agg (ad := ⟨b7, 0, none⟩) (cs := [(.string ByteArray.empty), (zi 0)]) (by kernel_rfl) (by kernel_rfl) (cells_sub (hs100.heapAt 0 rfl) rfl)) (.tmp (by kernel_rfl)) (.tmp (by kernel_rfl)))) ⟨_, ⟨rfl, rfl⟩, hs102⟩
    obtain ⟨h45p, hm⟩ := iN hm h45
    refine W.exit (exit_seq (exit_seq (exit_here ?_)))
    exact ⟨slots_intro _ (by kernel_rfl), hs38, hm⟩
   have h24p : ¬ (r19 = true) := ne_true_of_eq_false (bnot_true h24)
   replace hm := ite_no hm h24p
   refine W.sr fun K103 hK103 => ?_
   refine zR 1 ?_
   have hs106 := St.f1 hs23
   refine zT 0 [(.string ByteArray.empty), (zi 0)] [(.string ByteArray.empty), (zi 0)] hs106 fun w104 hs107 => ?_
   refine zE 2 (hK103 _ _ ?_)
   refine W.ret (ret_seq ?_)
   obtain rfl := some_inj hm
   have hs108 := St.f3 hs107
   have hs109 := St.tk1 hs108
   refine ret_of (.tuple #[(.agg #[(.string ByteArray.empty), (zi 0)]), (zi 0), (zi 13)]) (resS_of (by kernel_rfl) (resD_three rfl (.agg (ad := ⟨b7, 0, none⟩) (cs := [(.string ByteArray.empty), (zi 0)]) (by kernel_rfl) (by kernel_rfl) (cells_sub (hs107.heapAt 0 rfl) rfl)) (.tmp (by kernel_rfl)) (.tmp (by kernel_rfl)))) ⟨_, ⟨rfl, rfl⟩, hs109⟩
  obtain ⟨h10p, hm⟩ := iN hm h10
  refine zC00 hs6 (rdir_dir (gw := gw) (gi := gi) (gb := gb) (n_ := n_) (hv := (hs6.entAt 2 rfl refA_at)) (hP := h9p) (hK := h10p) B _) fun w110 hs112 => ?_
  refine zE 5 (hK8 _ _ ?_)
  refine W.seq fun K113 hK113 => ?_
  refine W.sr fun K114 hK114 => ?_
  refine zE 2 (hK114 _ _ ?_)
  refine W.cond_true true (by kernel_rfl) rfl ?_
  refine W.sr fun K115 hK115 => ?_
  refine zR 2 ?_
  refine zT 0 [(.string ByteArray.empty), (zi 0)] [(.string ByteArray.empty), (zi 0)] hs112 fun w116 hs118 => ?_
  refine zE 2 (hK115 _ _ ?_)
  refine W.ret (ret_seq ?_)
  obtain rfl := some_inj hm
  have hs119 := St.f2 hs118
  have hs120 := St.tk1 hs119
  refine ret_of (.tuple #[(.agg #[(.string ByteArray.empty), (zi 0)]), (zi 0), (zi 10)]) (resS_of (by kernel_rfl) (resD_three rfl (.agg (ad := ⟨b7, 0, none⟩) (cs := [(.string ByteArray.empty), (zi 0)]) (by kernel_rfl) (by kernel_rfl) (cells_sub (hs118.heapAt 0 rfl) rfl)) (.tmp (by kernel_rfl)) (.tmp (by kernel_rfl)))) ⟨_, ⟨rfl, rfl⟩, hs120⟩
 obtain ⟨h9p, hm⟩ := iN hm h9
 refine zC00 hs6 (rdir_err (gw := gw) (gi := gi) (gb := gb) (n_ := n_) (hv := (hs6.entAt 2 rfl refA_at)) (hN := h9p) B _) fun w121 hs123 => ?_
 refine zR 5 ?_
 obtain ⟨r124, h125, hm⟩ := bind_some hm
 replace h125 := some_inj h125
 refine ops_set 12 (v := .int .i64 r124) (Eq.trans (by kernel_rfl) (congrArg (Value.int .i64) h125)) ?_
 refine zD (hK8 _ _ ?_)
 refine W.seq fun K126 hK126 => ?_
 refine W.sr fun K127 hK127 => ?_
 refine zE 2 (hK127 _ _ ?_)
 refine W.cond (!decide (r124 = 0)) (by kernel_rfl) (fun h128 => ?_) (fun h128 => ?_)
 rotate_left
 ·
  have h128p : r124 = 0 := of_decide_eq_true (bnot_false h128)
  exact absurd h128p (fun e_ => h9p (h125.trans e_))
 have h128p : ¬ (r124 = 0) := of_decide_eq_false (bnot_true h128)
 replace hm := ite_no hm h128p
 refine W.sr fun K129 hK129 => ?_
 refine zR 2 ?_
 refine zT 0 [(.string ByteArray.empty), (zi 0)] [(.string ByteArray.empty), (zi 0)] hs123 fun w130 hs132 => ?_
 refine zE 2 (hK129 _ _ ?_)
 refine W.ret (ret_seq ?_)
 obtain rfl := some_inj hm
 have hs133 := St.f2 hs132
 have hs134 := St.tk1 hs133
 refine ret_of (.tuple #[(.agg #[(.string ByteArray.empty), (zi 0)]), (zi 0), (zi r124)]) (resS_of (by kernel_rfl) (resD_three rfl (.agg (ad := ⟨b7, 0, none⟩) (cs := [(.string ByteArray.empty), (zi 0)]) (by kernel_rfl) (by kernel_rfl) (cells_sub (hs132.heapAt 0 rfl) rfl)) (.tmp (by kernel_rfl)) (.tmp (by kernel_rfl)))) ⟨_, ⟨rfl, rfl⟩, hs134⟩
end Go.Proofs.YtmmclabkkigiaaaGreat
