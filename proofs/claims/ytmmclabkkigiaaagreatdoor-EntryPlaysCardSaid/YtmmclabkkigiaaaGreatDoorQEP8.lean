/- Texts, one behind the other: A6y, PEu, A5G, PE0, KTn, AI10, PI10, ALeEp, PLeEp, K7, Lo, LoS, Ro17, ClA, ClB, ClC, ClD, ClE. -/
import Derived.Test.YtmmclabkkigiaaaGreatDoorRows
import Derived.Test.YtmmclabkkigiaaaGreatDoorCards
import Derived.OpenShut
import Derived.Test.YtmmclabkkigiaaaGreatDoorChecked
import Derived.Test.YtmmclabkkigiaaaGreatDoorQEP7
set_option linter.unusedVariables false
set_option linter.unusedSimpArgs false
set_option maxRecDepth 20000
namespace Go.Proofs.YtmmclabkkigiaaaGreatDoor
open Go Go.RowKit
def same15_B0 (xs : List TEn) (ys : List TRe) (k8 : Int → Option (Bool)) (p7 : Int) : Option (Bool) :=
 if p7 < (xs.length : Int) then (need (0 ≤ p7 ∧ p7 < (xs.length : Int)) <|
need (0 ≤ p7 ∧ p7 < (ys.length : Int)) <|
if ((xs.getD p7.toNat dEn).c0) = ((ys.getD p7.toNat dRe).c0) ∧ (xs.getD p7.toNat dEn).c1 = (ys.getD p7.toNat dRe).c1 then (need (-9223372036854775808 ≤ (p7 + 1) ∧ (p7 + 1) ≤ 9223372036854775807) <|
k8 (p7 + 1)) else (some false)) else (some true)
def same15_M (xs : List TEn) (ys : List TRe) : Option (Bool) :=
 if (xs.length : Int) = (ys.length : Int) then (iter (fun k_ s_ => same15_B0 xs ys k_ s_) FUEL 0) else (some false)
theorem same15_walk {xs : List TEn} {ys : List TRe} {xa ya : Option Addr} {xc yc : Nat} {r : Bool} (B : Nat) (w : World) (hx : CellsAt xa (kEn.cells xs) w) (hy : CellsAt ya (kRe.cells ys) w) (hm : same15_M xs ys = some r) : Spec Tryz.prog 33 #[(.slice xa xs.length xc), (.slice ya ys.length yc)] B w [] (fun v H' => v = .bool r ∧ H' = []) := by
 refine spec_Q Tryz.func33 rfl fun hs => ?_
 unfold same15_M at hm
 refine W.sr fun K1 hK1 => ?_
 refine zE 1 (hK1 _ _ ?_)
 refine W.seq fun K2 hK2 => ?_
 refine W.sr fun K3 hK3 => ?_
 refine zE 5 (hK3 _ _ ?_)
 refine W.cond (!decide ((xs.length : Int) = (ys.length : Int))) (by kernel_rfl) (fun h4 => ?_) (fun h4 => ?_)
 rotate_left
 ·
  have h4p : (xs.length : Int) = (ys.length : Int) := of_decide_eq_true (bnot_false h4)
  replace hm := ite_yes hm h4p
  refine W.skip ?_
  refine hK2 _ _ ?_
  refine W.seq fun K5 hK5 => ?_
  refine W.sr fun K6 hK6 => ?_
  refine zE 1 (hK6 _ _ ?_)
  refine W.block ?_
  refine W.loop_iter (G := Int) (σ := Int) (fun | p7 => p7) (fun | p7, s_, w_ => (∃ us, s_ = slots 26 [(0, (.slice xa xs.length xc)), (1, (.slice ya ys.length yc)), (5, (zi p7))] us) ∧ St B w [] w_ []) 0 ⟨slots_intro _ (by kernel_rfl), hs⟩ hm ?_
  rintro k8 ih9 p7 _ w10 ⟨⟨us, rfl⟩, hs11⟩ hm
  replace hm : same15_B0 xs ys k8 p7 = some r := hm
  unfold same15_B0 at hm
  refine W.seq fun K12 hK12 => ?_
  refine W.sr fun K13 hK13 => ?_
  refine zE 4 (hK13 _ _ ?_)
  refine W.cond (decide (p7 < (xs.length : Int))) (by kernel_rfl) (fun h14 => ?_) (fun h14 => ?_)
  ·
   obtain ⟨h14p, hm⟩ := iY hm h14
   refine W.skip ?_
   refine hK12 _ _ ?_
   refine W.seq fun K15 hK15 => ?_
   refine W.block ?_
   refine W.seq fun K16 hK16 => ?_
   have hs17 := hs11.drew
   refine W.regionD [(0, 0), (0, 0), (3, 3), (4, 4), (0, 0), (0, 0), (48, 48), (64, 64), (136, 136)] (fun w_ => St B w [] w_ []) (by kernel_rfl) hs17 ?_
   refine zA (.slice xa xs.length xc) 0 hs17 ?_
   refine zA (zi p7) 1 hs17 ?_
   obtain ⟨h19, hm⟩ := need_some hm
   have hk18 := lt_toNat h19
   refine any_R 2 (by kernel_rfl) (fun _ hS_ => runs_index (a := xa) (n := xs.length) (z := p7) (size := 2) p7.toNat (nat_of h19.1) hk18 (kEn.addr (hs17.oldCells hx) hk18) (by kernel_rfl)) hs17 ?_
   refine any_R 3 (by kernel_rfl) (fun _ hS_ => runs_loadAgg (cs := [(.string ((xs.getD p7.toNat dEn).c0)), (zi ((xs.getD p7.toNat dEn).c1))]) (by kernel_rfl) (kEn.all (hS_.oldCells hx) hk18 dEn 0 rfl)) hs17 ?_
   refine zA (.slice ya ys.length yc) 4 hs17 ?_
   refine zA (zi p7) 5 hs17 ?_
   obtain ⟨h21, hm⟩ := need_some hm
   have hk20 := lt_toNat h21
   refine any_R 6 (by kernel_rfl) (fun _ hS_ => runs_index (a := ya) (n := ys.length) (z := p7) (size := 2) p7.toNat (nat_of h21.1) hk20 (kRe.addr (hs17.oldCells hy) hk20) (by kernel_rfl)) hs17 ?_
   refine any_R 7 (by kernel_rfl) (fun _ hS_ => runs_loadAgg (cs := [(.string ((ys.getD p7.toNat dRe).c0)), (zi ((ys.getD p7.toNat dRe).c1))]) (by kernel_rfl) (kRe.all (hS_.oldCells hy) hk20 dRe 0 rfl)) hs17 ?_
   refine any_R (v := (.bool (!((((xs.getD p7.toNat dEn).c0) == ((ys.getD p7.toNat dRe).c0)) && ((decide ((xs.getD p7.toNat dEn).c1 = (ys.getD p7.toNat dRe).c1)) && true))))) 8 (by kernel_rfl) (fun _ hS_ => runs_eq (b := !((((xs.getD p7.toNat dEn).c0) == ((ys.getD p7.toNat dRe).c0)) && ((decide ((xs.getD p7.toNat dEn).c1 = (ys.getD p7.toNat dRe).c1)) && true))) (by kernel_rfl)) hs17 ?_
   refine any_done (by kernel_rfl) ?_
   refine hK16 _ _ ?_
   refine W.cond (!((((xs.getD p7.toNat dEn).c0) == ((ys.getD p7.toNat dRe).c0)) && ((decide ((xs.getD p7.toNat dEn).c1 = (ys.getD p7.toNat dRe).c1)) && true))) (by kernel_rfl) (fun h22 => ?_) (fun h22 => ?_)
   rotate_left
   ·
    have h22p : ((xs.getD p7.toNat dEn).c0) = ((ys.getD p7.toNat dRe).c0) ∧ (xs.getD p7.toNat dEn).c1 = (ys.getD p7.toNat dRe).c1 := by simpa using (bnot_false h22)
    replace hm := ite_yes hm h22p
    refine W.skip ?_
    refine normal_block ?_
    refine hK15 _ _ ?_
    refine W.region ?_
    refine zR 1 ?_
    obtain ⟨h23, hm⟩ := need_some hm
    refine zI _ (wrap_i64 h23.1 h23.2) ?_
    refine zE 1 ?_
    refine loopAt_next ?_
    exact ih9 (p7 + 1) _ _ ⟨slots_intro _ (by kernel_rfl), hs17⟩ hm
   have h22p : ¬ (((xs.getD p7.toNat dEn).c0) = ((ys.getD p7.toNat dRe).c0) ∧ (xs.getD p7.toNat dEn).c1 = (ys.getD p7.toNat dRe).c1) := by simpa using (bnot_true h22)
   replace hm := ite_no hm h22p
   refine W.sr fun K24 hK24 => ?_
   refine zE 1 (hK24 _ _ ?_)
   refine W.ret (ret_block (ret_seq (ret_seq (ret_block (ret_seq ?_)))))
   obtain rfl := some_inj hm
   refine ret_of (.bool false) (by kernel_rfl) ⟨_, ⟨rfl, rfl⟩, hs17⟩
  obtain ⟨h14p, hm⟩ := iN hm h14
  refine W.exit (exit_seq (exit_seq (exit_here ?_)))
  refine hK5 _ _ ?_
  refine W.sr fun K25 hK25 => ?_
  refine zE 1 (hK25 _ _ ?_)
  refine W.ret ?_
  obtain rfl := some_inj hm
  refine ret_of (.bool true) (by kernel_rfl) ⟨_, ⟨rfl, rfl⟩, hs11⟩
 have h4p : ¬ ((xs.length : Int) = (ys.length : Int)) := of_decide_eq_false (bnot_true h4)
 replace hm := ite_no hm h4p
 refine W.sr fun K26 hK26 => ?_
 refine zE 1 (hK26 _ _ ?_)
 refine W.ret (ret_seq ?_)
 obtain rfl := some_inj hm
 refine ret_of (.bool false) (by kernel_rfl) ⟨_, ⟨rfl, rfl⟩, hs⟩
end Go.Proofs.YtmmclabkkigiaaaGreatDoor

namespace Go.Proofs.YtmmclabkkigiaaaGreatDoor
open Go Go.RowKit
section
variable {gw gi gb n k : Int} {img : List Int} {l : List (Int × Int)}
theorem VI.vwrites (at_ : Int) : ∀ (xs : List Int) (i : Int) (l : List (Int × Int)), VI img l → (∀ x ∈ xs, U64 x) → VI img (vwrites img at_ l i xs).2
  | [], _, _, h, _ => h
  | x :: xs, i, l, h, hx => by
    unfold Go.Proofs.YtmmclabkkigiaaaGreatDoor.vwrites
    have h1 := h.vwrite (a := at_ + i) (hx x (by simp))
    split
    · exact VI.vwrites at_ xs (i + 1) _ h1 fun y hy => hx y (by simp [hy])
    · exact h1
theorem take_no (hv : VI img l) (hl : img.length ≤ 6232) (hk : 0 ≤ k ∧ k < 12) {a : Int × Int} (ha : bat_M img l gw gi gb n k = some a) (h1 : a.1 = 0) (h2 : a.2 = 0) {nd : Int} (hn : bneed_M img l gw gi gb n k = some nd) (h0 : (igetM img l gw gi gb n).2 = 0) (hfr : (freeF img l gi gb (264 + 208 * gw) (272 + 208 * gw)).2 < nd) : bTake_M img l gw gi gb n k = some (0, 7, l) := by
  have g := gt_of hv hl h0
  have hg := may_out g.may
  have hP : May gw gi gb ∧ wordsOf gw gi gb ≤ (img.length : Int) := ⟨g.may, g.fit⟩
  have hle : (img.length : Int) ≤ 1000000000000 := by omega
  have f1 := afree_ok (gi := gi) (gb := gb) hv.1 (show 0 ≤ 264 + 208 * gw ∧ 264 + 208 * gw ≤ 1000000000000 by omega) (show 0 ≤ 272 + 208 * gw ∧ 272 + 208 * gw ≤ 1000000000000 by omega) (by omega) (by omega)
  unfold bTake_M
  refine bind_of ha ?_
  rw [if_pos h2, decide_eq_true h1]
  unfold bTake_J1
  simp only [need, Bool.not_true, Bool.false_eq_true, if_false, if_pos hle, if_pos hP, place6 g.may, place7 g.may, f1, hn, Option.bind, if_pos hfr]
theorem wr_eq {r : Int × Int × List (Int × Int)} {xs : List Int} (hx : xs.length ≤ 1000) : tadd_J4 img gw gi gb r xs (xs.length : Int) = some (vwrites img (placeOf 9 gw gi gb r.1) r.2.2 0 xs) := by
  have hp := place9 gw gi gb r.1
  unfold tadd_J4
  refine iter_run (fun s : List (Int × Int) × Int => 0 ≤ s.2 ∧ s.2 ≤ (xs.length : Int) ∧ vwrites img (placeOf 9 gw gi gb r.1) s.1 ((s.2.toNat : Nat) : Int) (xs.drop s.2.toNat) = vwrites img (placeOf 9 gw gi gb r.1) r.2.2 0 xs) (fun s => ((xs.length : Int) - s.2).toNat) ?_ _ _ ⟨by simp, by simp, rfl⟩ (fuel_lt (by simp only; omega))
  rintro c ⟨m, p⟩ ⟨h1, h2, h3⟩ ih
  simp only at h1 h2 h3 ih
  show tadd_B0 img gw gi gb r xs (xs.length : Int) c m p = _
  unfold tadd_B0
  by_cases hlt : p < (xs.length : Int)
  · rw [if_pos hlt]
    have hs := vwrites_step (img := img) (at_ := placeOf 9 gw gi gb r.1) (m := m) (ws := xs) (k := p.toNat) (by omega)
    rw [hs, show ((p.toNat : Nat) : Int) = p by omega] at h3
    refine need_of (by omega) (need_of (by omega) ?_)
    by_cases h0 : (vwrite img m (placeOf 9 gw gi gb r.1 + p) (xs.getD p.toNat 0)).1 = 0
    · rw [if_pos h0] at h3 ⊢
      refine need_of (by omega) (ih _ ⟨by simp only; omega, by simp only; omega, ?_⟩ (by simp only; omega))
      simp only
      rw [show (p + 1).toNat = p.toNat + 1 by omega]
      exact h3
    · rw [if_neg h0] at h3 ⊢
      rw [← h3]
      rfl
  · rw [if_neg hlt]
    rw [List.drop_of_length_le (by omega)] at h3
    rw [← h3]
    rfl
theorem add_go (hv : VI img l) (hl : img.length ≤ 6232) (h0 : (igetM img l gw gi gb n).2 = 0) {tx : ByteArray} (hm : mayB tx = true) {xi : Int} (hxi : 1 ≤ xi ∧ xi < gi) {b : Nat} (hb : b < 12) (he : ebegin_M tx = some (b : Int)) (hat : ∀ k : Nat, k < 12 → ∃ a : Int × Int, bat_M img l gw gi gb n (k : Int) = some a ∧ a.2 = 0) : ∀ (t k N : Nat), k + t = 12 → t < N →
    ∃ x : Int × List (Int × Int), rounds (fun k_ c_ (s_ : Unit) => tadd_R27 img l gw gi gb n tx xi (b : Int) k_ c_) (fun s_ => tadd_D27 l) t k () = some x ∧ iter (fun k_ s_ => rAdd15_B0 img l gw gi gb n tx xi k_ s_) N (k : Int) = some x ∧ VI img x.2 := by
  have g := gt_of hv hl h0
  have hg := may_out g.may
  intro t
  induction t with
  | zero =>
    intro k N hk hN
    obtain ⟨m, rfl⟩ : ∃ m, N = m + 1 := ⟨N - 1, by omega⟩
    refine ⟨(16, l), rfl, ?_, hv⟩
    show rAdd15_B0 img l gw gi gb n tx xi (iter _ m) (k : Int) = _
    unfold rAdd15_B0
    rw [if_neg (by omega)]
  | succ t ih =>
    intro k N hk hN
    obtain ⟨m, rfl⟩ : ∃ m, N = m + 1 := ⟨N - 1, by omega⟩
    obtain ⟨y, i1, i2, i3⟩ := ih (k + 1) m (by omega) (by omega)
    obtain ⟨p, hp⟩ : ∃ p, p = (b + k) % 12 := ⟨_, rfl⟩
    have hp12 : p < 12 := by omega
    have ez : (((b : Nat) : Int) + (k : Int)) % 12 = (p : Int) := by omega
    have et : (((b : Nat) : Int) + (k : Int)).tmod 12 = (p : Int) := by rw [Int.tmod_eq_emod_of_nonneg (by omega)]; omega
    obtain ⟨a, e1, e2, _⟩ := at_eq (gw := gw) (gi := gi) (gb := gb) (n := n) (k := (p : Int)) hv hl (by omega)
    obtain ⟨a', e1', ha2'⟩ := hat p hp12
    obtain rfl : a' = a := some_inj (e1'.symm.trans e1)
    obtain ⟨c1, hc1⟩ : ∃ c1, c1 = rounds (fun k_ c_ (s_ : Unit) => tadd_R27 img l gw gi gb n tx xi (b : Int) k_ c_) (fun s_ => tadd_D27 l) t (k + 1) := ⟨_, rfl⟩
    obtain ⟨c2, hc2⟩ : ∃ c2, c2 = iter (fun k_ s_ => rAdd15_B0 img l gw gi gb n tx xi k_ s_) m := ⟨_, rfl⟩
    rw [← hc1] at i1
    rw [← hc2] at i2
    have L : rounds (fun k_ c_ (s_ : Unit) => tadd_R27 img l gw gi gb n tx xi (b : Int) k_ c_) (fun s_ => tadd_D27 l) (t + 1) k () = tadd_R27 img l gw gi gb n tx xi (b : Int) k c1 := by rw [hc1]; rfl
    have Rr : iter (fun k_ s_ => rAdd15_B0 img l gw gi gb n tx xi k_ s_) (m + 1) (k : Int) = rAdd15_B0 img l gw gi gb n tx xi c2 (k : Int) := by rw [hc2]; rfl
    rw [L, Rr]
    unfold tadd_R27 rAdd15_B0
    rw [if_pos (show (k : Int) < 12 by omega), rbegin15_eq, he, ez]
    have q0 : -9223372036854775808 ≤ (b : Int) + (k : Int) ∧ (b : Int) + (k : Int) ≤ 9223372036854775807 := by omega
    simp only [need, if_pos q0, Option.bind, et, e1, e2]
    by_cases h1 : a'.1 = 0
    · have hP : May gw gi gb ∧ wordsOf gw gi gb ≤ (img.length : Int) := ⟨g.may, g.fit⟩
      have hle : (img.length : Int) ≤ 1000000000000 := by omega
      have f2 := rfree_ok (gi := gi) (gb := gb) hv.1 (show 0 ≤ 264 + 208 * gw ∧ 264 + 208 * gw ≤ 1000000000000 by omega) (show 0 ≤ 272 + 208 * gw ∧ 272 + 208 * gw ≤ 1000000000000 by omega) (by omega) (by omega)
      obtain ⟨nd, n1, n2⟩ := need_eq (gw := gw) (gi := gi) (gb := gb) (n := n) (k := (p : Int)) hv hl (by omega)
      obtain ⟨r, t1, t2, t3⟩ := take_eq (gw := gw) (gi := gi) (gb := gb) (n := n) (k := (p : Int)) hv hl (by omega)
      simp only [if_pos h1, if_pos ha2', if_pos hle, if_pos hP, place6 g.may, place7 g.may, f2, n2]
      by_cases hfr : (freeF img l gi gb (264 + 208 * gw) (272 + 208 * gw)).2 < nd
      · simp only [if_pos hfr]
        rw [take_no hv hl (by omega) e1 h1 ha2' n1 h0 hfr]
        simp only
        exact ⟨_, rfl, rfl, hv⟩
      · simp only [if_neg hfr, t1, t2]
        by_cases hr0 : r.2.1 = 0
        · have hms := mayB_iff.1 hm
          have hpl := packF_len tx
          have q1 : 0 ≤ xi ∧ xi ≤ 18446744073709551615 := by omega
          have q2 : 0 ≤ (tx.size : Int) ∧ (tx.size : Int) ≤ 18446744073709551615 := by omega
          have q3 : (packF tx).length ≤ 1000000 := by omega
          have hlen2 : ([xi, (tx.size : Int)] ++ packF tx).length = 2 + (tx.size + 7) / 8 := by rw [List.length_append, hpl]; rfl
          have q4 : ([xi, (tx.size : Int)] ++ packF tx).length ≤ 1000000 := by omega
          have hp9 := place9 gw gi gb r.1
          have q5 : -1 ≤ placeOf 9 gw gi gb r.1 ∧ placeOf 9 gw gi gb r.1 ≤ 1000000 := by omega
          simp only [if_pos hr0, if_pos q1, if_pos q2, opack_eq (show tx.size ≤ 1000000 by omega), rpack_eq (show tx.size ≤ 1000000 by omega), if_pos q3, if_pos q4, if_pos q5]
          rw [wr_eq (by omega)]
          refine ⟨_, rfl, rfl, VI.vwrites _ _ _ _ t3 fun x hx => ?_⟩
          rcases List.mem_append.1 hx with q | q
          · rcases List.mem_cons.1 q with rfl | q
            · unfold U64; omega
            · rw [List.mem_singleton] at q
              rw [q]; unfold U64; omega
          · exact packF_u64 tx x q
        · simp only [if_neg hr0]
          exact ⟨_, rfl, rfl, t3⟩
    · have q6 : -9223372036854775808 ≤ (k : Int) + 1 ∧ (k : Int) + 1 ≤ 9223372036854775807 := by omega
      simp only [if_neg h1, if_pos q6]
      exact ⟨y, i1, i2, i3⟩
theorem may2_eq (xi : Int) : emay2_M gi xi = some (if xi < 1 ∨ xi ≥ gi then 1 else 0) := by
  unfold emay2_M
  by_cases h1 : xi < 1
  · rw [if_pos h1, if_pos h1, if_pos (.inl h1)]
  · rw [if_neg h1]
    by_cases h2 : xi ≥ gi
    · rw [if_pos h2, if_pos (.inr h2)]
    · rw [if_neg h2, if_neg (by omega)]
theorem iget_not (h : ¬ May gw gi gb) : (igetM img l gw gi gb n).2 = 1 := by
  have : placeOf 8 gw gi gb n = -1 := by
    rcases place8_cases gw gi gb n with ⟨e, _⟩ | ⟨hM, _⟩
    · exact e
    · exact absurd hM h
  have hf : ifind img.length gw gi gb n = (0, 1) := by
    unfold ifind
    rw [this, if_pos (.inl (by decide))]
  unfold igetM
  rw [hf]
  rfl
theorem iget_may (h0 : (igetM img l gw gi gb n).2 = 0) : May gw gi gb := by
  by_cases h : May gw gi gb
  · exact h
  · rw [iget_not h] at h0
    cases h0
theorem add_eq (hv : VI img l) (hl : img.length ≤ 6232) (tx : ByteArray) (xi : Int) : ∃ r : Int × List (Int × Int), eAdd_M img l gw gi gb n tx xi = some r ∧ rAdd15_M img l gw gi gb n tx xi = some r ∧ VI img r.2 := by
  obtain ⟨x, e1, e2, e3, e4⟩ := find_eq (gw := gw) (gi := gi) (gb := gb) (n := n) hv hl tx
  have her := iget_err (img := img) (l := l) (gw := gw) (gi := gi) (gb := gb) (n := n)
  unfold eAdd_M rAdd15_M
  rw [may2_eq]
  simp only [Option.bind]
  by_cases hx : xi < 1 ∨ xi ≥ gi
  · rw [if_pos hx, if_neg (by decide)]
    refine ⟨(1, l), rfl, ?_, hv⟩
    by_cases hM : May gw gi gb
    · rw [if_pos hM]
      by_cases h1 : xi < 1
      · rw [if_pos h1]
      · rw [if_neg h1, if_pos (by omega)]
    · rw [if_neg hM]
      unfold rAdd15_J1
      have hi := iget_not (img := img) (l := l) (n := n) hM
      rcases e3 with ⟨_, q⟩ | ⟨q, _⟩ | ⟨q, _⟩
      · refine bind_of e2 ?_
        rw [q, hi]
        rfl
      · omega
      · omega
  · rw [if_neg hx, if_pos rfl]
    have hR : (if May gw gi gb then (if xi < 1 then (some (1, l)) else (if xi ≥ gi then (some (1, l)) else (rAdd15_J1 img l gw gi gb n tx xi))) else (rAdd15_J1 img l gw gi gb n tx xi)) = rAdd15_J1 img l gw gi gb n tx xi := by
      split
      · rw [if_neg (by omega), if_neg (by omega)]
      · rfl
    rw [hR]
    unfold rAdd15_J1
    rw [e2]
    simp only [Option.bind]
    rcases e3 with ⟨q1, q2⟩ | ⟨q1, q2, q3⟩ | ⟨q1, q2, q3, q4, q5⟩
    · rw [if_neg q1, if_neg q1, if_neg (by omega), if_neg (by omega)]
      exact ⟨_, rfl, by rw [q2], hv⟩
    · rw [if_pos q1, if_neg q2, if_neg (by omega), if_neg (by omega)]
      exact ⟨_, rfl, by rw [q3], hv⟩
    · rw [if_pos q1, if_pos q2, q3]
      simp only
      by_cases h0 : x.2.2.2 = 0
      · simp only [if_pos h0]
        exact ⟨_, rfl, rfl, hv⟩
      · simp only [if_neg h0]
        by_cases h6 : x.2.2.2 = 6
        · simp only [if_pos h6]
          obtain ⟨hm, hat⟩ := q5 h6
          obtain ⟨b, hb, he⟩ := ebegin_range tx
          obtain ⟨y, a1, a2, a3⟩ := add_go hv hl q1 hm (xi := xi) (by omega) hb he hat 12 0 FUEL rfl (fuel_lt (by omega))
          unfold tadd_M
          rw [he]
          have hbn : (0 : Int) ≤ (b : Int) ∧ (b : Int) ≤ 12 := by omega
          simp only [need, if_pos hbn, Option.bind]
          rw [a1]
          exact ⟨y, rfl, a2, a3⟩
        · simp only [if_neg h6]
          exact ⟨_, rfl, rfl, hv⟩
theorem change_eq (hv : VI img l) (hl : img.length ≤ 6232) (tx : ByteArray) (xi : Int) : ∃ r : Int × List (Int × Int), eChange_M img l gw gi gb n tx xi = some r ∧ rChange15_M img l gw gi gb n tx xi = some r ∧ VI img r.2 := by
  obtain ⟨x, e1, e2, e3, e4⟩ := find_eq (gw := gw) (gi := gi) (gb := gb) (n := n) hv hl tx
  have her := iget_err (img := img) (l := l) (gw := gw) (gi := gi) (gb := gb) (n := n)
  unfold eChange_M rChange15_M
  rw [may2_eq]
  simp only [Option.bind]
  by_cases hx : xi < 1 ∨ xi ≥ gi
  · rw [if_pos hx, if_neg (by decide)]
    refine ⟨(1, l), rfl, ?_, hv⟩
    by_cases hM : May gw gi gb
    · rw [if_pos hM]
      by_cases h1 : xi < 1
      · rw [if_pos h1]
      · rw [if_neg h1, if_pos (by omega)]
    · rw [if_neg hM]
      unfold rChange15_J1
      have hi := iget_not (img := img) (l := l) (n := n) hM
      rcases e3 with ⟨_, q⟩ | ⟨q, _⟩ | ⟨q, _⟩
      · refine bind_of e2 ?_
        rw [q, hi]
        rfl
      · omega
      · omega
  · rw [if_neg hx, if_pos rfl]
    have hR : (if May gw gi gb then (if xi < 1 then (some (1, l)) else (if xi ≥ gi then (some (1, l)) else (rChange15_J1 img l gw gi gb n tx xi))) else (rChange15_J1 img l gw gi gb n tx xi)) = rChange15_J1 img l gw gi gb n tx xi := by
      split
      · rw [if_neg (by omega), if_neg (by omega)]
      · rfl
    rw [hR]
    unfold rChange15_J1
    rw [e2]
    simp only [Option.bind]
    rcases e3 with ⟨q1, q2⟩ | ⟨q1, q2, q3⟩ | ⟨q1, q2, q3, q4, q5⟩
    · rw [if_neg q1, if_neg q1, if_neg (by omega)]
      exact ⟨_, rfl, by rw [q2], hv⟩
    · rw [if_pos q1, if_neg q2, if_neg (by omega)]
      exact ⟨_, rfl, by rw [q3], hv⟩
    · rw [if_pos q1, if_pos q2, q3]
      simp only
      by_cases h0 : x.2.2.2 = 0
      · simp only [if_pos h0]
        obtain ⟨a, a1, a2, _⟩ := at_eq (gw := gw) (gi := gi) (gb := gb) (n := n) (k := x.2.2.1) hv hl (q4 h0)
        rw [a1, a2]
        simp only
        by_cases h2 : a.2 = 0
        · have hg := may_out (iget_may q1)
          have u : 0 ≤ xi ∧ xi ≤ 18446744073709551615 := by omega
          simp only [if_pos h2, need, if_pos u]
          exact ⟨_, rfl, rfl, hv.vwrite (by unfold U64; omega)⟩
        · simp only [if_neg h2]
          exact ⟨_, rfl, rfl, hv⟩
      · simp only [if_neg h0]
        exact ⟨_, rfl, rfl, hv⟩
theorem remove_eq (hv : VI img l) (hl : img.length ≤ 6232) (tx : ByteArray) : ∃ r : Int × List (Int × Int), eRemove_M img l gw gi gb n tx = some r ∧ rRemove15_M img l gw gi gb n tx = some r ∧ VI img r.2 := by
  obtain ⟨x, e1, e2, e3, e4⟩ := find_eq (gw := gw) (gi := gi) (gb := gb) (n := n) hv hl tx
  unfold eRemove_M rRemove15_M
  rw [e2]
  simp only [Option.bind]
  rcases e3 with ⟨q1, q2⟩ | ⟨q1, q2, q3⟩ | ⟨q1, q2, q3, q4, q5⟩
  · rw [if_neg q1, if_neg q1, if_neg (by omega)]
    exact ⟨_, rfl, by rw [q2], hv⟩
  · rw [if_pos q1, if_neg q2, if_neg (by omega)]
    exact ⟨_, rfl, by rw [q3], hv⟩
  · rw [if_pos q1, if_pos q2, q3]
    simp only
    by_cases h0 : x.2.2.2 = 0
    · simp only [if_pos h0]
      obtain ⟨r, a1, a2, a3⟩ := drop_eq (gw := gw) (gi := gi) (gb := gb) (n := n) (k := x.2.2.1) hv hl (q4 h0)
      rw [a1, a2]
      exact ⟨_, rfl, rfl, a3⟩
    · simp only [if_neg h0]
      exact ⟨_, rfl, rfl, hv⟩
def Sm (xs : List TEn) (ys : List TRe) : Prop := xs.map (fun x => (x.c0, x.c1)) = ys.map (fun y => (y.c0, y.c1))
theorem Sm.len {xs : List TEn} {ys : List TRe} (h : Sm xs ys) : xs.length = ys.length := by
  have := congrArg List.length h
  simpa using this
theorem Sm.sat {xs : List TEn} {ys : List TRe} (h : Sm xs ys) {k : Nat} (hk : k < xs.length) : (xs.getD k dEn).c0 = (ys.getD k dRe).c0 ∧ (xs.getD k dEn).c1 = (ys.getD k dRe).c1 := by
  have hl := h.len
  have hk2 : k < ys.length := by omega
  have := congrArg (fun z : List (ByteArray × Int) => z[k]?) h
  simp only [List.getElem?_map, List.getElem?_eq_getElem hk, List.getElem?_eq_getElem hk2, Option.map_some, Option.some.injEq, Prod.mk.injEq] at this
  simp only [List.getD, List.getElem?_eq_getElem hk, List.getElem?_eq_getElem hk2, Option.getD_some]
  exact this
theorem Sm.snoc {xs : List TEn} {ys : List TRe} (h : Sm xs ys) (s : ByteArray) (v : Int) : Sm (xs ++ [⟨s, v⟩]) (ys ++ [⟨s, v⟩]) := by
  unfold Sm at h ⊢
  rw [List.map_append, List.map_append, h]
  rfl
theorem same15_eq {xs : List TEn} {ys : List TRe} (h : Sm xs ys) (hx : xs.length ≤ 1000) : same15_M xs ys = some true := by
  have hl := h.len
  unfold same15_M
  rw [if_pos (by omega)]
  refine iter_run (fun p : Int => 0 ≤ p ∧ p ≤ (xs.length : Int)) (fun p => ((xs.length : Int) - p).toNat) ?_ _ _ (by omega) (fuel_lt (by omega))
  intro c p hp ih
  unfold same15_B0
  by_cases hlt : p < (xs.length : Int)
  · rw [if_pos hlt]
    refine need_of (by omega) (need_of (by omega) ?_)
    rw [if_pos (h.sat (by omega))]
    exact need_of (by omega) (ih _ (by omega) (by omega))
  · rw [if_neg hlt]
theorem list_go (hv : VI img l) (hl : img.length ≤ 6232) : ∀ (t k N : Nat) (q : List TEn) (q' : List TRe), k + t = 12 → t < N → Sm q q' → q.length ≤ k →
    ∃ (x : List TEn × Int) (y : List TRe × Int), rounds (fun k_ c_ s_ => eList_R46 img l gw gi gb n k_ c_ s_) (fun s_ => eList_D46 s_) t k q = some x ∧ iter (fun k_ s_ => rList15_B0 img l gw gi gb n k_ s_.1 s_.2) N (q', (k : Int)) = some y ∧ Sm x.1 y.1 ∧ x.2 = y.2 ∧ x.1.length ≤ 12 := by
  intro t
  induction t with
  | zero =>
    intro k N q q' hk hN hs hq
    obtain ⟨m, rfl⟩ : ∃ m, N = m + 1 := ⟨N - 1, by omega⟩
    refine ⟨(q, 0), (q', 0), rfl, ?_, hs, rfl, by simp only; omega⟩
    show rList15_B0 img l gw gi gb n (iter _ m) q' (k : Int) = _
    unfold rList15_B0
    rw [if_neg (by omega)]
  | succ t ih =>
    intro k N q q' hk hN hs hq
    obtain ⟨m, rfl⟩ : ∃ m, N = m + 1 := ⟨N - 1, by omega⟩
    obtain ⟨x, e1, e2, e3, e4, e5⟩ := ent_eq (gw := gw) (gi := gi) (gb := gb) (n := n) (k := (k : Int)) hv hl (by omega)
    have ez : ((0 : Int) + (k : Int)) % 12 = (k : Int) := by omega
    obtain ⟨c1, hc1⟩ : ∃ c1, c1 = rounds (fun k_ c_ s_ => eList_R46 img l gw gi gb n k_ c_ s_) (fun s_ => eList_D46 s_) t (k + 1) := ⟨_, rfl⟩
    obtain ⟨c2, hc2⟩ : ∃ c2, c2 = iter (fun k_ s_ => rList15_B0 img l gw gi gb n k_ s_.1 s_.2) m := ⟨_, rfl⟩
    have L : rounds (fun k_ c_ s_ => eList_R46 img l gw gi gb n k_ c_ s_) (fun s_ => eList_D46 s_) (t + 1) k q = eList_R46 img l gw gi gb n k c1 q := by rw [hc1]; rfl
    have Rr : iter (fun k_ s_ => rList15_B0 img l gw gi gb n k_ s_.1 s_.2) (m + 1) (q', (k : Int)) = rList15_B0 img l gw gi gb n c2 q' (k : Int) := by rw [hc2]; rfl
    rw [L, Rr]
    have hsl := hs.len
    have q0 : -9223372036854775808 ≤ (k : Int) + 1 ∧ (k : Int) + 1 ≤ 9223372036854775807 := by omega
    have hk12 : (k : Int) < 12 := by omega
    have LE : ∀ z : Option (List TEn × Int), (if x.2.2.2 = 0 then (if x.1 = ByteArray.empty ∧ x.2.1 = 0 then c1 q else need (q.length + ([(⟨x.1, x.2.1⟩ : TEn)]).length ≤ 1000000000) (c1 (q ++ [(⟨x.1, x.2.1⟩ : TEn)]))) else eList_X46 x.2.2.2) = z → eList_R46 img l gw gi gb n k c1 q = z := by
      intro z hz
      unfold eList_R46
      rw [ez]
      exact bind_of rfl (bind_of e2 hz)
    have RE : ∀ z : Option (List TRe × Int), (if x.2.2.2 = 0 then (if x.2.2.1 = true then need (q'.length + ([(⟨x.1, x.2.1⟩ : TRe)]).length ≤ 1000000000) (c2 (q' ++ [(⟨x.1, x.2.1⟩ : TRe)], ((k + 1 : Nat) : Int))) else c2 (q', ((k + 1 : Nat) : Int))) else some ([], x.2.2.2)) = z → rList15_B0 img l gw gi gb n c2 q' (k : Int) = z := by
      intro z hz
      have ek : (k : Int) + 1 = ((k + 1 : Nat) : Int) := by omega
      unfold rList15_B0
      rw [if_pos hk12]
      refine bind_of e1 ?_
      have q1 : -9223372036854775808 ≤ ((k + 1 : Nat) : Int) ∧ ((k + 1 : Nat) : Int) ≤ 9223372036854775807 := by omega
      by_cases hx0 : x.2.2.2 = 0
      · rw [if_pos hx0] at hz ⊢
        by_cases his : x.2.2.1 = true
        · rw [if_pos his] at hz ⊢
          rw [← hz, ek]
          exact congrArg (fun z => need (q'.length + ([(⟨x.1, x.2.1⟩ : TRe)]).length ≤ 1000000000) z) (need_of q1 rfl)
        · rw [if_neg his] at hz ⊢
          rw [← hz, ek]
          exact need_of q1 rfl
      · rw [if_neg hx0] at hz ⊢
        exact hz
    by_cases hx0 : x.2.2.2 = 0
    · rw [if_pos hx0] at LE RE
      rcases e3 with ⟨a1, a2, a3, a4⟩ | ⟨a1, a2, a3⟩
      · have hms := mayB_iff.1 a3
        have hne : ¬ (x.1 = ByteArray.empty ∧ x.2.1 = 0) := fun z => by omega
        rw [if_neg hne] at LE
        rw [if_pos a1] at RE
        obtain ⟨u, v, i1, i2, i3⟩ := ih (k + 1) m (q ++ [⟨x.1, x.2.1⟩]) (q' ++ [⟨x.1, x.2.1⟩]) (by omega) (by omega) (hs.snoc _ _) (by rw [List.length_append]; simp only [List.length_cons, List.length_nil]; omega)
        rw [← hc1] at i1
        rw [← hc2] at i2
        exact ⟨u, v, LE _ (need_of (by simp only [List.length_cons, List.length_nil]; omega) i1), RE _ (need_of (by simp only [List.length_cons, List.length_nil]; omega) i2), i3⟩
      · rw [if_pos ⟨a2, a3⟩] at LE
        rw [if_neg (by rw [a1]; decide)] at RE
        obtain ⟨u, v, i1, i2, i3⟩ := ih (k + 1) m q q' (by omega) (by omega) hs (by omega)
        rw [← hc1] at i1
        rw [← hc2] at i2
        exact ⟨u, v, LE _ i1, RE _ i2, i3⟩
    · rw [if_neg hx0] at LE RE
      exact ⟨_, _, LE _ rfl, RE _ rfl, rfl, rfl, by simp⟩
theorem list_eq (hv : VI img l) (hl : img.length ≤ 6232) : ∃ (x : List TEn × Int) (y : List TRe × Int), eList_M img l gw gi gb n = some x ∧ rList15_M img l gw gi gb n = some y ∧ Sm x.1 y.1 ∧ x.2 = y.2 ∧ x.1.length ≤ 12 := by
  unfold eList_M rList15_M
  by_cases h0 : (igetM img l gw gi gb n).2 = 0
  · rw [if_pos h0, if_pos h0]
    by_cases hk : (igetM img l gw gi gb n).1.k = 2
    · have hz : (0 : Int) ≤ 0 ∧ (0 : Int) ≤ 12 := by omega
      rw [if_pos hk, if_pos hk, need, if_pos hz]
      exact list_go hv hl 12 0 FUEL [] [] rfl (fuel_lt (by omega)) rfl (Nat.le_refl _)
    · rw [if_neg hk, if_neg hk]
      exact ⟨_, _, rfl, rfl, rfl, rfl, by simp⟩
  · rw [if_neg h0, if_neg h0, if_neg h0, Option.bind, if_neg h0]
    exact ⟨_, _, rfl, rfl, rfl, rfl, by simp⟩
end
end Go.Proofs.YtmmclabkkigiaaaGreatDoor

set_option maxRecDepth 20000
namespace Go.Proofs.YtmmclabkkigiaaaGreatDoor
open Go Go.RowKit
def great15_B0 (ss : List TSt15) (k9 : Int → Option (Bool)) (p8 : Int) : Option (Bool) :=
 if p8 < (ss.length : Int) then (need (0 ≤ p8 ∧ p8 < (ss.length : Int)) <|
if (((ss.getD p8.toNat dSt15).c2).size : Int) > 500 then (some true) else (need (-9223372036854775808 ≤ (p8 + 1) ∧ (p8 + 1) ≤ 9223372036854775807) <|
k9 (p8 + 1))) else (some false)
def great15_M (ss : List TSt15) : Option (Bool) :=
 if (ss.length : Int) > 40 then (some true) else (iter (fun k_ s_ => great15_B0 ss k_ s_) FUEL 0)
theorem great15_walk {ss : List TSt15} {sa : Option Addr} {sc : Nat} {r : Bool} (B : Nat) (w : World) (hst : CellsAt sa (kSt15.cells ss) w) (hm : great15_M ss = some r) : Spec Tryz.prog 22 #[(.slice sa ss.length sc)] B w [] (fun v H' => v = .bool r ∧ H' = []) := by
 refine spec_Q Tryz.func22 rfl fun hs => ?_
 unfold great15_M at hm
 refine W.sr fun K1 hK1 => ?_
 refine zE 1 (hK1 _ _ ?_)
 refine W.seq fun K2 hK2 => ?_
 refine W.sr fun K3 hK3 => ?_
 refine zE 3 (hK3 _ _ ?_)
 refine W.cond (decide ((ss.length : Int) > 40)) (by kernel_rfl) (fun h4 => ?_) (fun h4 => ?_)
 ·
  obtain ⟨h4p, hm⟩ := iY hm h4
  refine W.sr fun K5 hK5 => ?_
  refine zE 1 (hK5 _ _ ?_)
  refine W.ret (ret_seq ?_)
  obtain rfl := some_inj hm
  refine ret_of (.bool true) (by kernel_rfl) ⟨_, ⟨rfl, rfl⟩, hs⟩
 obtain ⟨h4p, hm⟩ := iN hm h4
 refine W.skip ?_
 refine hK2 _ _ ?_
 refine W.seq fun K6 hK6 => ?_
 refine W.sr fun K7 hK7 => ?_
 refine zE 1 (hK7 _ _ ?_)
 refine W.block ?_
 refine W.loop_iter (G := Int) (σ := Int) (fun | p8 => p8) (fun | p8, s_, w_ => (∃ us, s_ = slots 21 [(0, (.slice sa ss.length sc)), (3, (zi p8))] us) ∧ St B w [] w_ []) 0 ⟨slots_intro _ (by kernel_rfl), hs⟩ hm ?_
 rintro k9 ih10 p8 _ w11 ⟨⟨us, rfl⟩, hs12⟩ hm
 replace hm : great15_B0 ss k9 p8 = some r := hm
 unfold great15_B0 at hm
 refine W.seq fun K13 hK13 => ?_
 refine W.sr fun K14 hK14 => ?_
 refine zE 4 (hK14 _ _ ?_)
 refine W.cond (decide (p8 < (ss.length : Int))) (by kernel_rfl) (fun h15 => ?_) (fun h15 => ?_)
 ·
  obtain ⟨h15p, hm⟩ := iY hm h15
  refine W.skip ?_
  refine hK13 _ _ ?_
  refine W.seq fun K16 hK16 => ?_
  refine W.block ?_
  refine W.sr fun K17 hK17 => ?_
  refine zR 2 ?_
  obtain ⟨h19, hm⟩ := need_some hm
  have hk18 := lt_toNat h19
  refine ops_R (runs_index (a := sa) (n := ss.length) (z := p8) (size := 5) p8.toNat (nat_of h19.1) hk18 (kSt15.addr (hs12.oldCells hst) hk18) (by kernel_rfl)) ?_
  refine zR 2 ?_
  refine zL ((adr sa (p8.toNat * 5)).add 2) (.string ((ss.getD p8.toNat dSt15).c2)) (kSt15.at (hs12.oldCells hst) hk18 dSt15 2 rfl) ?_
  refine zE 2 (hK17 _ _ ?_)
  refine W.cond (decide ((((ss.getD p8.toNat dSt15).c2).size : Int) > 500)) (by kernel_rfl) (fun h20 => ?_) (fun h20 => ?_)
  ·
   obtain ⟨h20p, hm⟩ := iY hm h20
   refine W.sr fun K21 hK21 => ?_
   refine zE 1 (hK21 _ _ ?_)
   refine W.ret (ret_block (ret_seq (ret_seq (ret_block (ret_seq ?_)))))
   obtain rfl := some_inj hm
   refine ret_of (.bool true) (by kernel_rfl) ⟨_, ⟨rfl, rfl⟩, hs12⟩
  obtain ⟨h20p, hm⟩ := iN hm h20
  refine W.skip ?_
  refine normal_block ?_
  refine hK16 _ _ ?_
  refine W.region ?_
  refine zR 1 ?_
  obtain ⟨h22, hm⟩ := need_some hm
  refine zI _ (wrap_i64 h22.1 h22.2) ?_
  refine zE 1 ?_
  refine loopAt_next ?_
  exact ih10 (p8 + 1) _ _ ⟨slots_intro _ (by kernel_rfl), hs12⟩ hm
 obtain ⟨h15p, hm⟩ := iN hm h15
 refine W.exit (exit_seq (exit_seq (exit_here ?_)))
 refine hK6 _ _ ?_
 refine W.sr fun K23 hK23 => ?_
 refine zE 1 (hK23 _ _ ?_)
 refine W.ret ?_
 obtain rfl := some_inj hm
 refine ret_of (.bool false) (by kernel_rfl) ⟨_, ⟨rfl, rfl⟩, hs12⟩
end Go.Proofs.YtmmclabkkigiaaaGreatDoor

namespace Go.Proofs.YtmmclabkkigiaaaGreatDoor
open Go Go.RowKit
theorem great15_few (ss : List TSt15) : Ok (fun b : Bool => b = false → ss.length ≤ 40) (great15_M ss) := by
  unfold great15_M
  refine Ok.ite (fun _ => Ok.some (fun q => by cases q)) fun hl => ?_
  refine Ok.iter (fun p : Int => 0 ≤ p ∧ p ≤ (ss.length : Int)) (fun p => ((ss.length : Int) - p).toNat) ?_ _ _ ⟨by omega, by omega⟩ (fuel_lt (by omega))
  intro k p hp ih
  unfold great15_B0
  refine Ok.ite (fun h => Ok.need (by omega) (Ok.ite (fun _ => Ok.some (fun q => by cases q)) fun _ => Ok.need (by omega) (ih _ (by omega) (by omega)))) fun h => Ok.some (fun _ => by omega)
end Go.Proofs.YtmmclabkkigiaaaGreatDoor

namespace Go.Proofs.YtmmclabkkigiaaaGreatDoor
open Go Go.RowKit
structure TTn where
  c0 : Int
  c1 : Int
def dTn : TTn := (⟨0, 0⟩ : TTn)
def kTn : Kind TTn := ⟨120, 2, fun x => [.int .u16 x.c0, .int .u64 x.c1], by decide, fun _ => rfl, fun _ => rfl⟩
def good_Tn (x : TTn) : Prop := (0 ≤ x.c0 ∧ x.c0 ≤ 65535) ∧ (0 ≤ x.c1 ∧ x.c1 ≤ 18446744073709551615)
end Go.Proofs.YtmmclabkkigiaaaGreatDoor

set_option maxRecDepth 20000
set_option maxHeartbeats 2000000
namespace Go.Proofs.YtmmclabkkigiaaaGreatDoor
open Go Go.RowKit
def image_J1 (gw : Int) (gi : Int) (gb : Int) (cut_ : Int) (q11 : List Int) : Option (List Int) :=
 need (-9223372036854775808 ≤ cut_ ∧ cut_ ≤ 9223372036854775807) <|
need (-9223372036854775808 ≤ ((((fmtW gw gi gb).length) : Int) - (mn cut_ (((fmtW gw gi gb).length) : Int))) ∧ ((((fmtW gw gi gb).length) : Int) - (mn cut_ (((fmtW gw gi gb).length) : Int))) ≤ 9223372036854775807) <|
need (0 ≤ ((((fmtW gw gi gb).length) : Int) - (mn cut_ (((fmtW gw gi gb).length) : Int))) ∧ ((((fmtW gw gi gb).length) : Int) - (mn cut_ (((fmtW gw gi gb).length) : Int))) ≤ (((fmtW gw gi gb).length) : Int)) <|
need ((fmtW gw gi gb).length = q11.length) <|
some (q11.take (((((fmtW gw gi gb).length) : Int) - (mn cut_ (((fmtW gw gi gb).length) : Int))).toNat))
def image_B0 (gw : Int) (gi : Int) (gb : Int) (ts : List TTn) (cut_ : Int) (k25 : ((List Int) × Int) → Option (List Int)) (q23 : List Int) (p24 : Int) : Option (List Int) :=
 if p24 < (ts.length : Int) then (if (((fmtW gw gi gb).length) : Int) > 0 then (need (0 ≤ p24 ∧ p24 < (ts.length : Int)) <|
need (-9223372036854775808 ≤ ((ts.getD p24.toNat dTn).c0) ∧ ((ts.getD p24.toNat dTn).c0) ≤ 9223372036854775807) <|
need (¬ ((((fmtW gw gi gb).length) : Int) = 0)) <|
need (0 ≤ p24 ∧ p24 < (ts.length : Int)) <|
need (0 ≤ (((ts.getD p24.toNat dTn).c0).tmod (((fmtW gw gi gb).length) : Int)) ∧ (((ts.getD p24.toNat dTn).c0).tmod (((fmtW gw gi gb).length) : Int)) < (((fmtW gw gi gb).length) : Int)) <|
need ((((ts.getD p24.toNat dTn).c0).tmod (((fmtW gw gi gb).length) : Int)).toNat < q23.length) <|
need (-9223372036854775808 ≤ (p24 + 1) ∧ (p24 + 1) ≤ 9223372036854775807) <|
k25 ((q23.set ((((ts.getD p24.toNat dTn).c0).tmod (((fmtW gw gi gb).length) : Int)).toNat) ((ts.getD p24.toNat dTn).c1)), (p24 + 1))) else (image_J1 gw gi gb cut_ q23)) else (image_J1 gw gi gb cut_ q23)
def image_M (gw : Int) (gi : Int) (gb : Int) (ts : List TTn) (cut_ : Int) : Option (List Int) :=
 iter (fun k_ s_ => image_B0 gw gi gb ts cut_ k_ s_.1 s_.2) FUEL ((fmtW gw gi gb), 0)
theorem image_walk {gw : Int} {gi : Int} {gb : Int} {ts : List TTn} {cut_ : Int} {ta : Option Addr} {tc : Nat} {r : List Int} (B : Nat) (w : World) (ht : CellsAt ta (kTn.cells ts) w) (hm : image_M gw gi gb ts cut_ = some r) : Spec Tryz.prog 23 #[(.agg #[(zi gw), (zi gi), (zi gb)]), (.slice ta ts.length tc), (.int .u16 cut_)] B w [] (fun v H' => ∃ a' c', v = .slice a' r.length c' ∧ H' = [kU64.row a' c' r]) := by
 refine spec_Q Tryz.func23 rfl fun hs => ?_
 unfold image_M at hm
 refine W.sr fun K1 hK1 => ?_
 refine zN [(zi gw), (zi gi), (zi gb)] 31 hs fun b4 w2 hs3 => ?_
 refine zE 1 (hK1 _ _ ?_)
 refine W.sr fun K5 hK5 => ?_
 refine zG ⟨b4, 0, none⟩ [(zi gw), (zi gi), (zi gb)] (cells_sub (hs3.heapAt 0 rfl) rfl) ?_
 refine ops_call0 hs3 (by kernel_rfl) (format_spec (gw := gw) (gi := gi) (gb := gb) B _) ?_
 rintro _ _ w8 ⟨a6, c7, rfl, rfl⟩ hs9
 have hs10 := St.ap1 hs9
 refine zE 1 (hK5 _ _ ?_)
 refine W.seq_join (fun s_ w_ => ∃ (q11 : List Int), (∃ us, s_ = slots 48 [(2, (.int .u16 cut_)), (7, (.slice a6 ((fmtW gw gi gb).length) c7))] us) ∧ St B w [] w_ [kU64.row a6 c7 q11, zb b4 31 [(zi gw), (zi gi), (zi gb)]] ∧ image_J1 gw gi gb cut_ q11 = some r) ?_ ?_
 ·
  rintro _ w12 ⟨q11, ⟨us, rfl⟩, hs13, hm⟩
  unfold image_J1 at hm
  refine W.sr fun K14 hK14 => ?_
  refine zR 4 ?_
  obtain ⟨h15, hm⟩ := need_some hm
  refine zI _ (wrap_i64 h15.1 h15.2) ?_
  refine zR 3 ?_
  obtain ⟨h16, hm⟩ := need_some hm
  refine zI _ (wrap_i64 h16.1 h16.2) ?_
  obtain ⟨h17, hm⟩ := need_some hm
  have hc18 := St.kcap kU64 hs13 0 rfl
  obtain ⟨h19, hm⟩ := need_some hm
  rw [← h19] at hc18
  refine ops_R (runs_prefixL (a := a6) (n := (fmtW gw gi gb).length) (c := c7) (z := ((((fmtW gw gi gb).length) : Int) - (mn cut_ (((fmtW gw gi gb).length) : Int)))) (size := 1) (((((fmtW gw gi gb).length) : Int) - (mn cut_ (((fmtW gw gi gb).length) : Int))).toNat) (q11.take (((((fmtW gw gi gb).length) : Int) - (mn cut_ (((fmtW gw gi gb).length) : Int))).toNat)).length (le_take_len (by omega)) (nat_of h17.1) (le_toNat h17) hc18 (by kernel_rfl)) ?_
  refine zE 1 (hK14 _ _ ?_)
  refine W.ret ?_
  have hs20 := St.kprefix kU64 (((((fmtW gw gi gb).length) : Int) - (mn cut_ (((fmtW gw gi gb).length) : Int))).toNat) hs13
  obtain rfl := some_inj hm
  have hs21 := St.tk1 hs20
  refine ret_of (.slice a6 ((q11.take (((((fmtW gw gi gb).length) : Int) - (mn cut_ (((fmtW gw gi gb).length) : Int))).toNat)).length) c7) (by kernel_rfl) ⟨_, ⟨a6, c7, rfl, rfl⟩, hs21⟩
 refine W.sr fun K22 hK22 => ?_
 refine zE 1 (hK22 _ _ ?_)
 refine W.block ?_
 refine W.loop_iter (G := (List Int) × Int) (σ := (List Int) × Int) (fun | (q23, p24) => (q23, p24)) (fun | (q23, p24), s_, w_ => (∃ us, s_ = slots 48 [(1, (.slice ta ts.length tc)), (2, (.int .u16 cut_)), (7, (.slice a6 ((fmtW gw gi gb).length) c7)), (8, (zi p24))] us) ∧ St B w [] w_ [kU64.row a6 c7 q23, zb b4 31 [(zi gw), (zi gi), (zi gb)]]) ((fmtW gw gi gb), 0) ⟨slots_intro _ (by kernel_rfl), hs10⟩ hm ?_
 rintro k25 ih26 ⟨q23, p24⟩ _ w27 ⟨⟨us, rfl⟩, hs28⟩ hm
 replace hm : image_B0 gw gi gb ts cut_ k25 q23 p24 = some r := hm
 unfold image_B0 at hm
 refine W.seq fun K29 hK29 => ?_
 refine W.sr fun K30 hK30 => ?_
 refine zR 5 ?_
 rcases Bool.eq_false_or_eq_true (decide (p24 < (ts.length : Int))) with h31 | h31
 ·
  obtain ⟨h31p, hm⟩ := iY hm h31
  refine zS 15 h31 ?_
  refine zS 14 h31 ?_
  refine zE 4 (hK30 _ _ ?_)
  refine W.cond (decide ((((fmtW gw gi gb).length) : Int) > 0)) (by kernel_rfl) (fun h32 => ?_) (fun h32 => ?_)
  ·
   obtain ⟨h32p, hm⟩ := iY hm h32
   refine W.skip ?_
   refine hK29 _ _ ?_
   refine W.seq fun K33 hK33 => ?_
   refine W.block ?_
   have hs34 := hs28.drew
   have hs35 := St.f1 hs34
   have hs36 := St.tk1 hs35
   refine W.regionD [(0, 0), (0, 0), (0, 0), (6, 6), (8, 8), (16, 16), (32, 32), (0, 0), (128, 128), (320, 320), (0, 0), (0, 0), (3072, 3072), (4096, 4096), (8192, 8192), (32767, 513), (65535, 49152)] (fun w_ => St B w [] w_ [zb b4 31 [(zi gw), (zi gi), (zi gb)]]) (by kernel_rfl) hs36 ?_
   refine zA (.slice a6 ((fmtW gw gi gb).length) c7) 0 hs36 ?_
   refine zA (.slice ta ts.length tc) 1 hs36 ?_
   refine zA (zi p24) 2 hs36 ?_
   obtain ⟨h38, hm⟩ := need_some hm
   have hk37 := lt_toNat h38
   refine any_R 3 (by kernel_rfl) (fun _ hS_ => runs_index (a := ta) (n := ts.length) (z := p24) (size := 2) p24.toNat (nat_of h38.1) hk37 (kTn.addr (hs34.oldCells ht) hk37) (by kernel_rfl)) hs36 ?_
   refine zA (.pointer (some (adr ta (p24.toNat * 2)))) 4 hs36 ?_
   refine zB 5 ((adr ta (p24.toNat * 2)).add 0) (.int .u16 ((ts.getD p24.toNat dTn).c0)) (fun _ hS_ => (kTn.at (hS_.oldCells ht) hk37 dTn 0 rfl)) hs36 ?_
   obtain ⟨h39, hm⟩ := need_some hm
   refine any_val (v := .int .i64 (IntKind.i64.wrap ((ts.getD p24.toNat dTn).c0))) (v' := .int .i64 ((ts.getD p24.toNat dTn).c0)) 6 (by kernel_rfl) (fun _ => by kernel_rfl) (congrArg (Value.int .i64) (wrap_i64 h39.1 h39.2)) hs36 ?_
   refine zA (.slice a6 ((fmtW gw gi gb).length) c7) 7 hs36 ?_
   refine zA (zi (((fmtW gw gi gb).length) : Int)) 8 hs36 ?_
   obtain ⟨h40, hm⟩ := need_some hm
   refine any_R (v := .int .i64 (((ts.getD p24.toNat dTn).c0).tmod (((fmtW gw gi gb).length) : Int))) 9 (by kernel_rfl) (fun _ hS_ => runs_rem (k := .i64) (a := (ts.getD p24.toNat dTn).c0) (b := (((fmtW gw gi gb).length) : Int)) (by kernel_rfl) h40 rfl) hs36 ?_
   refine zA (.slice ta ts.length tc) 10 hs36 ?_
   refine zA (zi p24) 11 hs36 ?_
   obtain ⟨h42, hm⟩ := need_some hm
   have hk41 := lt_toNat h42
   refine any_R 12 (by kernel_rfl) (fun _ hS_ => runs_index (a := ta) (n := ts.length) (z := p24) (size := 2) p24.toNat (nat_of h42.1) hk41 (kTn.addr (hs34.oldCells ht) hk41) (by kernel_rfl)) hs36 ?_
   refine zA (.pointer (some ((adr ta (p24.toNat * 2)).add 1))) 13 hs36 ?_
   refine zB 14 ((adr ta (p24.toNat * 2)).add 1) (zu ((ts.getD p24.toNat dTn).c1)) (fun _ hS_ => (kTn.at (hS_.oldCells ht) hk41 dTn 1 rfl)) hs36 ?_
   obtain ⟨h44, hm⟩ := need_some hm
   have hk43 := lt_toNat h44
   obtain ⟨h46, hm⟩ := need_some hm
   have hk45 := h46
   refine any_R 15 (by kernel_rfl) (fun _ hS_ => runs_index (a := a6) (n := (fmtW gw gi gb).length) (z := (((ts.getD p24.toNat dTn).c0).tmod (((fmtW gw gi gb).length) : Int))) (size := 1) ((((ts.getD p24.toNat dTn).c0).tmod (((fmtW gw gi gb).length) : Int)).toNat) (nat_of h44.1) hk43 (kU64.addr (St.kcells kU64 hs34 0 rfl) hk45) (by kernel_rfl)) hs36 ?_
   refine any_step 16 (by kernel_rfl) (by kernel_rfl) ?_
   refine ops_storeK kU64 (j := 0) (vs := [(zu ((ts.getD p24.toNat dTn).c1))]) 0 ((ts.getD p24.toNat dTn).c1) hs34 hk45 (Nat.le_of_ble_eq_true rfl) (by simp) rfl rfl (by kernel_rfl) (fun w47 hs48 => ?_)
   have hs50 := St.f1 hs48
   have hs51 := St.tk1 hs50
   refine ops_done (by kernel_rfl) ⟨hs51, ?_⟩
   refine any_done (by kernel_rfl) ?_
   refine normal_block ?_
   refine hK33 _ _ ?_
   refine W.region ?_
   refine zR 1 ?_
   obtain ⟨h52, hm⟩ := need_some hm
   refine zI _ (wrap_i64 h52.1 h52.2) ?_
   refine zE 1 ?_
   refine loopAt_next ?_
   exact ih26 ((q23.set ((((ts.getD p24.toNat dTn).c0).tmod (((fmtW gw gi gb).length) : Int)).toNat) ((ts.getD p24.toNat dTn).c1)), (p24 + 1)) _ _ ⟨slots_intro _ (by kernel_rfl), hs48⟩ hm
  obtain ⟨h32p, hm⟩ := iN hm h32
  refine W.exit (exit_seq (exit_seq (exit_here ?_)))
  exact ⟨q23, slots_intro _ (by kernel_rfl), hs28, hm⟩
 obtain ⟨h31p, hm⟩ := iN hm h31
 refine zS 15 h31 ?_
 refine zS 14 h31 ?_
 refine zE 4 (hK30 _ _ ?_)
 refine W.cond_false false (by kernel_rfl) rfl ?_
 refine W.exit (exit_seq (exit_seq (exit_here ?_)))
 exact ⟨q23, slots_intro _ (by kernel_rfl), hs28, hm⟩
end Go.Proofs.YtmmclabkkigiaaaGreatDoor

namespace Go.Proofs.YtmmclabkkigiaaaGreatDoor
open Go Go.RowKit
theorem image_u64 {gw gi gb cut_ : Int} {ts : List TTn} (hc : 0 ≤ cut_ ∧ cut_ ≤ 65535) (ht : ∀ t ∈ ts, good_Tn t) (hl : ts.length ≤ 1000) :
    Ok (fun ws : List Int => ws.length ≤ 6232 ∧ (∀ x ∈ ws, U64 x) ∧ (cut_ = 0 → ws.length = (wordsOf gw gi gb).toNat)) (image_M gw gi gb ts cut_) := by
  have hw := words_le gw gi gb
  have hlen := fmtW_len gw gi gb
  have hfu : ∀ x ∈ fmtW gw gi gb, U64 x := fmtW_u64
  generalize hn : (fmtW gw gi gb).length = n at *
  have hn2 : n ≤ 6232 := by omega
  unfold image_M
  refine Ok.iter (fun s => s.1.length = n ∧ (∀ x ∈ s.1, U64 x) ∧ 0 ≤ s.2 ∧ s.2 ≤ (ts.length : Int)) (fun s => ((ts.length : Int) - s.2).toNat) ?_ _ _ ⟨hn, hfu, by omega, by omega⟩ (fuel_lt (by simp only; omega))
  rintro k ⟨q, p⟩ ⟨h1, hq, h2, h3⟩ ih
  simp only at h1 hq h2 h3 ih ⊢
  have fin : Ok (fun ws : List Int => ws.length ≤ 6232 ∧ (∀ x ∈ ws, U64 x) ∧ (cut_ = 0 → ws.length = (wordsOf gw gi gb).toNat)) (image_J1 gw gi gb cut_ q) := by
    unfold image_J1
    rw [hn]
    have hm : 0 ≤ mn cut_ n ∧ mn cut_ n ≤ n ∧ (cut_ = 0 → mn cut_ n = 0) := by unfold mn; split <;> omega
    refine Ok.need (by omega) (Ok.need (by omega) (Ok.need (by omega) (Ok.need (by omega) (Ok.some ⟨?_, fun x hx => hq x (List.mem_of_mem_take hx), ?_⟩))))
    · rw [List.length_take]; omega
    · intro h0; rw [List.length_take, hm.2.2 h0]; omega
  unfold image_B0
  rw [hn]
  refine Ok.ite (fun hp => ?_) (fun _ => fin)
  refine Ok.ite (fun hq0 => ?_) (fun _ => fin)
  have hpn : p.toNat < ts.length := by omega
  have hmem : ts.getD p.toNat dTn ∈ ts := by simp [List.getD, hpn]
  have hb := ht _ hmem
  have hb1 := hb.1
  have hb2 := hb.2
  have htm := Int.tmod_eq_emod_of_nonneg (b := (n : Int)) hb1.1
  have h5 := Int.emod_nonneg (ts.getD p.toNat dTn).c0 (b := (n : Int)) (by omega)
  have h6 := Int.emod_lt_of_pos (ts.getD p.toNat dTn).c0 (b := (n : Int)) (by omega)
  rw [htm]
  refine Ok.need (by omega) (Ok.need (by omega) (Ok.need (by omega) (Ok.need (by omega) (Ok.need (by omega) (Ok.need (by omega) (Ok.need (by omega) ?_))))))
  refine ih _ ⟨by rw [List.length_set]; exact h1, ?_, by omega, by omega⟩ (by omega)
  intro x hx
  rcases List.mem_or_eq_of_mem_set hx with h | h
  · exact hq x h
  · rw [h]; unfold U64; omega
end Go.Proofs.YtmmclabkkigiaaaGreatDoor

set_option maxRecDepth 20000
set_option maxHeartbeats 4000000
namespace Go.Proofs.YtmmclabkkigiaaaGreatDoor
open Go Go.RowKit
def entryplays_J4 (k62 : ((List (Int × Int)) × (List (Int × Int)) × Int) → Option (Bool)) (p61 : Int) (l91 : List (Int × Int)) (l92 : List (Int × Int)) (p93 : Bool) : Option (Bool) :=
 if p93 = true then (need (l91.length ≤ 9223372036854775806) <|
if l91 = l92 then (need (-9223372036854775808 ≤ (p61 + 1) ∧ (p61 + 1) ≤ 9223372036854775807) <|
k62 (l91, l92, (p61 + 1))) else (some false)) else (some false)
def entryplays_J3 (gw : Int) (gi : Int) (gb : Int) (ss : List TSt15) (r38 : List Int) (k62 : ((List (Int × Int)) × (List (Int × Int)) × Int) → Option (Bool)) (p61 : Int) (l84 : List (Int × Int)) (l85 : List (Int × Int)) (p88 : Bool) : Option (Bool) :=
 if ((ss.getD p61.toNat dSt15).c0).tmod 5 = 0 then ((eFind_M r38 l84 gw gi gb ((ss.getD p61.toNat dSt15).c1) ((ss.getD p61.toNat dSt15).c2)).bind fun r163 =>
(rFind15_M r38 l85 gw gi gb ((ss.getD p61.toNat dSt15).c1) ((ss.getD p61.toNat dSt15).c2)).bind fun r176 =>
if p88 = true then (if r163.1 = r176.1 ∧ r163.2.1 = r176.2.1 then (if r163.2.2.1 = r176.2.2.1 then (entryplays_J4 k62 p61 l84 l85 (decide (r163.2.2.2 = r176.2.2.2))) else (entryplays_J4 k62 p61 l84 l85 false)) else (entryplays_J4 k62 p61 l84 l85 false)) else (entryplays_J4 k62 p61 l84 l85 false)) else (if ((ss.getD p61.toNat dSt15).c0).tmod 5 = 1 then (if p88 = true then ((eAdd_M r38 l84 gw gi gb ((ss.getD p61.toNat dSt15).c1) ((ss.getD p61.toNat dSt15).c2) ((ss.getD p61.toNat dSt15).c3)).bind fun r228 =>
(rAdd15_M r38 l85 gw gi gb ((ss.getD p61.toNat dSt15).c1) ((ss.getD p61.toNat dSt15).c2) ((ss.getD p61.toNat dSt15).c3)).bind fun r239 =>
entryplays_J4 k62 p61 r228.2 r239.2 (decide (r228.1 = r239.1))) else (entryplays_J4 k62 p61 l84 l85 false)) else (if ((ss.getD p61.toNat dSt15).c0).tmod 5 = 2 then (if p88 = true then ((eChange_M r38 l84 gw gi gb ((ss.getD p61.toNat dSt15).c1) ((ss.getD p61.toNat dSt15).c2) ((ss.getD p61.toNat dSt15).c3)).bind fun r265 =>
(rChange15_M r38 l85 gw gi gb ((ss.getD p61.toNat dSt15).c1) ((ss.getD p61.toNat dSt15).c2) ((ss.getD p61.toNat dSt15).c3)).bind fun r276 =>
entryplays_J4 k62 p61 r265.2 r276.2 (decide (r265.1 = r276.1))) else (entryplays_J4 k62 p61 l84 l85 false)) else (if ((ss.getD p61.toNat dSt15).c0).tmod 5 = 3 then (if p88 = true then ((eRemove_M r38 l84 gw gi gb ((ss.getD p61.toNat dSt15).c1) ((ss.getD p61.toNat dSt15).c2)).bind fun r302 =>
(rRemove15_M r38 l85 gw gi gb ((ss.getD p61.toNat dSt15).c1) ((ss.getD p61.toNat dSt15).c2)).bind fun r313 =>
entryplays_J4 k62 p61 r302.2 r313.2 (decide (r302.1 = r313.1))) else (entryplays_J4 k62 p61 l84 l85 false)) else ((eList_M r38 l84 gw gi gb ((ss.getD p61.toNat dSt15).c1)).bind fun r331 =>
(rList15_M r38 l85 gw gi gb ((ss.getD p61.toNat dSt15).c1)).bind fun r340 =>
if p88 = true then ((same15_M r331.1 r340.1).bind fun r349 =>
if r349 = true then (entryplays_J4 k62 p61 l84 l85 (decide (r331.2 = r340.2))) else (entryplays_J4 k62 p61 l84 l85 false)) else (entryplays_J4 k62 p61 l84 l85 false)))))
def entryplays_J2 (gw : Int) (gi : Int) (gb : Int) (ss : List TSt15) (r38 : List Int) (k62 : ((List (Int × Int)) × (List (Int × Int)) × Int) → Option (Bool)) (p61 : Int) (l84 : List (Int × Int)) (l85 : List (Int × Int)) : Option (Bool) :=
 (emay_M ((ss.getD p61.toNat dSt15).c2)).bind fun r377 =>
(rmay15_M ((ss.getD p61.toNat dSt15).c2)).bind fun r382 =>
if ((r377 = true) ↔ (r382 = true)) then ((ebegin_M ((ss.getD p61.toNat dSt15).c2)).bind fun r388 =>
(rbegin15_M ((ss.getD p61.toNat dSt15).c2)).bind fun r393 =>
entryplays_J3 gw gi gb ss r38 k62 p61 l84 l85 (decide (r388 = r393))) else (entryplays_J3 gw gi gb ss r38 k62 p61 l84 l85 false)
def entryplays_B0 (gw : Int) (gi : Int) (gb : Int) (ss : List TSt15) (r38 : List Int) (k62 : ((List (Int × Int)) × (List (Int × Int)) × Int) → Option (Bool)) (l59 : List (Int × Int)) (l60 : List (Int × Int)) (p61 : Int) : Option (Bool) :=
 if p61 < (ss.length : Int) then (need (0 ≤ p61 ∧ p61 < (ss.length : Int)) <|
if ((ss.getD p61.toNat dSt15).c4) = true then (entryplays_J2 gw gi gb ss r38 k62 p61 ([]) ([])) else (entryplays_J2 gw gi gb ss r38 k62 p61 l59 l60)) else ((works15_M).bind fun r443 =>
some r443)
def entryplays_M (gw : Int) (gi : Int) (gb : Int) (ts : List TTn) (cut_ : Int) (ss : List TSt15) : Option (Bool) :=
 if (ts.length : Int) > 60 then ((works15_M).bind fun r9 =>
some r9) else ((great15_M ss).bind fun r15 =>
if r15 = true then ((works15_M).bind fun r22 =>
some r22) else ((image_M gw gi gb ts cut_).bind fun r38 =>
need (r38.length ≤ 17592186044415) <|
need (r38.length ≤ 17592186044415) <|
iter (fun k_ s_ => entryplays_B0 gw gi gb ss r38 k_ s_.1 s_.2.1 s_.2.2) FUEL ([], [], 0)))
theorem entryplays_walk {gw : Int} {gi : Int} {gb : Int} {ts : List TTn} {cut_ : Int} {ss : List TSt15} {ta : Option Addr} {tc : Nat} {sa : Option Addr} {sc : Nat}  (B : Nat) (w : World) (hB : w.heap.size = B) (hT : CellsAt (some ⟨1, 0, none⟩) tab8 w) (ht : CellsAt ta (kTn.cells ts) w) (hst : CellsAt sa (kSt15.cells ss) w) (hm : entryplays_M gw gi gb ts cut_ ss = some true) : Spec Tryz.prog 5 #[(.agg #[(zi gw), (zi gi), (zi gb)]), (.slice ta ts.length tc), (.int .u16 cut_), (.slice sa ss.length sc)] B w [] (fun v H' => v = .bool true ∧ H' = []) := by
 refine spec_Q Tryz.func5 rfl fun hs => ?_
 unfold entryplays_M at hm
 have hG : 1 < B := by rw [← hB]; exact lt_of_cells hT (v := .int .u8 0) (by kernel_rfl)
 refine W.sr fun K1 hK1 => ?_
 refine zN [(zi gw), (zi gi), (zi gb)] 31 hs fun b4 w2 hs3 => ?_
 refine zE 1 (hK1 _ _ ?_)
 refine W.seq fun K5 hK5 => ?_
 refine W.sr fun K6 hK6 => ?_
 refine zR 4 ?_
 rcases Bool.eq_false_or_eq_true (decide ((ts.length : Int) > 60)) with h7 | h7
 ·
  obtain ⟨h7p, hm⟩ := iY hm h7
  refine zS 29 h7 ?_
  refine zS 28 h7 ?_
  refine zE 3 (hK6 _ _ ?_)
  refine W.cond_true true (by kernel_rfl) rfl ?_
  refine W.sr fun K8 hK8 => ?_
  obtain ⟨r9, h10, hm⟩ := bind_some hm
  refine zC00 hs3 (works15_walk (hG := hG) (hT := (hs3.oldCells hT)) (hm := h10) B _) fun w11 hs13 => ?_
  refine zE 1 (hK8 _ _ ?_)
  refine W.ret (ret_seq ?_)
  have hs14 := St.tk0 hs13
  refine ret_of (.bool r9) (by kernel_rfl) ⟨_, ⟨congrArg Value.bool (some_inj hm), rfl⟩, hs14⟩
 obtain ⟨h7p, hm⟩ := iN hm h7
 refine zS 29 h7 ?_
 refine zS 28 h7 ?_
 refine zR 1 ?_
 obtain ⟨r15, h16, hm⟩ := bind_some hm
 refine zC00 hs3 (great15_walk (sc := sc) (hst := (hs3.oldCells hst)) (hm := h16) B _) fun w17 hs19 => ?_
 refine zE 1 (hK6 _ _ ?_)
 refine W.cond r15 (by kernel_rfl) (fun h20 => ?_) (fun h20 => ?_)
 ·
  have h20p : r15 = true := h20
  replace hm := ite_yes hm h20p
  refine W.sr fun K21 hK21 => ?_
  obtain ⟨r22, h23, hm⟩ := bind_some hm
  refine zC00 hs19 (works15_walk (hG := hG) (hT := (hs19.oldCells hT)) (hm := h23) B _) fun w24 hs26 => ?_
  refine zE 1 (hK21 _ _ ?_)
  refine W.ret (ret_seq ?_)
  have hs27 := St.tk0 hs26
  refine ret_of (.bool r22) (by kernel_rfl) ⟨_, ⟨congrArg Value.bool (some_inj hm), rfl⟩, hs27⟩
 have h20p : ¬ (r15 = true) := ne_true_of_eq_false h20
 replace hm := ite_no hm h20p
 refine W.skip ?_
 refine hK5 _ _ ?_
 refine W.sr fun K28 hK28 => ?_
 refine zG ⟨b4, 0, none⟩ [(zi gw), (zi gi), (zi gb)] (cells_sub (hs19.heapAt 0 rfl) rfl) ?_
 refine zN [(zi 0), (zi 0), (zi 0)] 42 hs19 fun b31 w29 hs30 => ?_
 refine zT 0 [(zi gw), (zi gi), (zi gb)] [(zi gw), (zi gi), (zi gb)] hs30 fun w32 hs34 => ?_
 refine zD (hK28 _ _ ?_)
 refine W.sr fun K35 hK35 => ?_
 refine zG ⟨b4, 0, none⟩ [(zi gw), (zi gi), (zi gb)] (cells_sub (hs34.heapAt 1 rfl) rfl) ?_
 refine zR 2 ?_
 obtain ⟨r38, h39, hm⟩ := bind_some hm
 refine ops_call0 hs34 (by kernel_rfl) (image_walk (tc := tc) (ht := (hs34.oldCells ht)) (hm := h39) B _) ?_
 rintro _ _ w40 ⟨a36, c37, rfl, rfl⟩ hs41
 have hs42 := St.ap1 hs41
 refine zE 1 (hK35 _ _ ?_)
 refine W.sr fun K43 hK43 => ?_
 refine zR 1 ?_
 obtain ⟨h45, hm⟩ := need_some hm
 refine ops_call0 hs42 (by kernel_rfl) (new_spec (hc := (St.kcells kU64 hs42 0 rfl)) (hn := (St.capnil kU64 hs42 0 rfl)) (hsz := h45) B _) ?_
 rintro _ _ w46 ⟨b44, rfl, rfl⟩ hs47
 have hs48 := St.ap1 hs47
 refine zE 1 (hK43 _ _ ?_)
 refine W.sr fun K49 hK49 => ?_
 refine zR 1 ?_
 obtain ⟨h51, hm⟩ := need_some hm
 refine ops_call0 hs48 (by kernel_rfl) (rnew_spec (hc := (St.kcells kU64 hs48 1 rfl)) (hn := (St.capnil kU64 hs48 1 rfl)) (hsz := h51) B _) ?_
 rintro _ _ w52 ⟨b50, rfl, rfl⟩ hs53
 have hs54 := St.ap1 hs53
 refine zE 1 (hK49 _ _ ?_)
 refine W.seq fun K55 hK55 => ?_
 refine W.sr fun K56 hK56 => ?_
 refine zE 2 (hK56 _ _ ?_)
 refine W.cond_false false (by kernel_rfl) rfl ?_
 refine W.skip ?_
 refine hK55 _ _ ?_
 refine W.seq fun K57 hK57 => ?_
 refine W.sr fun K58 hK58 => ?_
 refine zE 1 (hK58 _ _ ?_)
 refine W.block ?_
 have hs66 := St.f2 hs54
 have hs67 := St.f1 hs66
 have hs68 := St.f2 hs67
 have hs69 := St.f3 hs68
 have hs70 := St.f4 hs69
 refine W.loop_iter (G := (List (Int × Int)) × (List (Int × Int)) × Int) (σ := (List (Int × Int)) × (List (Int × Int)) × Int) (fun | (l59, l60, p61) => (l59, l60, p61)) (fun | (l59, l60, p61), s_, w_ => (∃ us, s_ = slots 229 [(3, (.slice sa ss.length sc)), (4, (zp b4)), (9, (zp b31)), (11, (zp b44)), (12, (zp b50)), (13, (zi p61))] us) ∧ St B w [] w_ [zb b4 31 [(zi gw), (zi gi), (zi gb)], zb b31 42 [(zi gw), (zi gi), (zi gb)], viewA (ptr b44) r38 l59, refA (ptr b50) r38 l60, kU64.row a36 c37 r38]) ([], [], 0) ⟨slots_intro _ (by kernel_rfl), hs70⟩ hm ?_
 rintro k62 ih63 ⟨l59, l60, p61⟩ _ w64 ⟨⟨us, rfl⟩, hs65⟩ hm
 replace hm : entryplays_B0 gw gi gb ss r38 k62 l59 l60 p61 = some true := hm
 unfold entryplays_B0 at hm
 refine W.seq fun K71 hK71 => ?_
 refine W.sr fun K72 hK72 => ?_
 refine zE 4 (hK72 _ _ ?_)
 refine W.cond (decide (p61 < (ss.length : Int))) (by kernel_rfl) (fun h73 => ?_) (fun h73 => ?_)
 ·
  obtain ⟨h73p, hm⟩ := iY hm h73
  refine W.skip ?_
  refine hK71 _ _ ?_
  refine W.seq fun K74 hK74 => ?_
  refine W.block ?_
  refine W.sr fun K75 hK75 => ?_
  refine zR 2 ?_
  obtain ⟨h77, hm⟩ := need_some hm
  have hk76 := lt_toNat h77
  refine ops_R (runs_index (a := sa) (n := ss.length) (z := p61) (size := 5) p61.toNat (nat_of h77.1) hk76 (kSt15.addr (hs65.oldCells hst) hk76) (by kernel_rfl)) ?_
  refine ops_R (runs_loadAgg (cs := [(.int .u8 ((ss.getD p61.toNat dSt15).c0)), (zi ((ss.getD p61.toNat dSt15).c1)), (.string ((ss.getD p61.toNat dSt15).c2)), (zi ((ss.getD p61.toNat dSt15).c3)), (.bool ((ss.getD p61.toNat dSt15).c4))]) (by kernel_rfl) (kSt15.all (hs65.oldCells hst) hk76 dSt15 0 rfl)) ?_
  refine zN [(.int .u8 0), (zi 0), (.string ByteArray.empty), (zi 0), (.bool false)] 57 hs65 fun b80 w78 hs79 => ?_
  refine zT 0 [(.int .u8 ((ss.getD p61.toNat dSt15).c0)), (zi ((ss.getD p61.toNat dSt15).c1)), (.string ((ss.getD p61.toNat dSt15).c2)), (zi ((ss.getD p61.toNat dSt15).c3)), (.bool ((ss.getD p61.toNat dSt15).c4))] [(.int .u8 ((ss.getD p61.toNat dSt15).c0)), (zi ((ss.getD p61.toNat dSt15).c1)), (.string ((ss.getD p61.toNat dSt15).c2)), (zi ((ss.getD p61.toNat dSt15).c3)), (.bool ((ss.getD p61.toNat dSt15).c4))] hs79 fun w81 hs83 => ?_
  refine zD (hK75 _ _ ?_)
  refine W.seq_join (fun s_ w_ => ∃ (l84 : List (Int × Int)) (l85 : List (Int × Int)), (∃ us, s_ = slots 229 [(3, (.slice sa ss.length sc)), (4, (zp b4)), (9, (zp b31)), (11, (zp b44)), (12, (zp b50)), (13, (zi p61)), (14, (zp b80))] us) ∧ St B w [] w_ [zb b4 31 [(zi gw), (zi gi), (zi gb)], zb b31 42 [(zi gw), (zi gi), (zi gb)], viewA (ptr b44) r38 l84, refA (ptr b50) r38 l85, zb b80 57 [(.int .u8 ((ss.getD p61.toNat dSt15).c0)), (zi ((ss.getD p61.toNat dSt15).c1)), (.string ((ss.getD p61.toNat dSt15).c2)), (zi ((ss.getD p61.toNat dSt15).c3)), (.bool ((ss.getD p61.toNat dSt15).c4))], kU64.row a36 c37 r38] ∧ entryplays_J2 gw gi gb ss r38 k62 p61 l84 l85 = some true) ?_ ?_
  ·
   rintro _ w86 ⟨l84, l85, ⟨us, rfl⟩, hs87, hm⟩
   unfold entryplays_J2 at hm
   refine W.seq_join (fun s_ w_ => ∃ (p88 : Bool), (∃ us, s_ = slots 229 [(3, (.slice sa ss.length sc)), (4, (zp b4)), (9, (zp b31)), (11, (zp b44)), (12, (zp b50)), (13, (zi p61)), (14, (zp b80)), (15, (.bool p88))] us) ∧ St B w [] w_ [zb b4 31 [(zi gw), (zi gi), (zi gb)], zb b31 42 [(zi gw), (zi gi), (zi gb)], viewA (ptr b44) r38 l84, refA (ptr b50) r38 l85, zb b80 57 [(.int .u8 ((ss.getD p61.toNat dSt15).c0)), (zi ((ss.getD p61.toNat dSt15).c1)), (.string ((ss.getD p61.toNat dSt15).c2)), (zi ((ss.getD p61.toNat dSt15).c3)), (.bool ((ss.getD p61.toNat dSt15).c4))], kU64.row a36 c37 r38] ∧ entryplays_J3 gw gi gb ss r38 k62 p61 l84 l85 p88 = some true) ?_ ?_
   ·
    rintro _ w89 ⟨p88, ⟨us, rfl⟩, hs90, hm⟩
    unfold entryplays_J3 at hm
    refine W.seq_join (fun s_ w_ => ∃ (l91 : List (Int × Int)) (l92 : List (Int × Int)) (p93 : Bool), (∃ us, s_ = slots 229 [(3, (.slice sa ss.length sc)), (4, (zp b4)), (9, (zp b31)), (11, (zp b44)), (12, (zp b50)), (13, (zi p61)), (15, (.bool p93))] us) ∧ St B w [] w_ [zb b4 31 [(zi gw), (zi gi), (zi gb)], zb b31 42 [(zi gw), (zi gi), (zi gb)], viewA (ptr b44) r38 l91, refA (ptr b50) r38 l92, zb b80 57 [(.int .u8 ((ss.getD p61.toNat dSt15).c0)), (zi ((ss.getD p61.toNat dSt15).c1)), (.string ((ss.getD p61.toNat dSt15).c2)), (zi ((ss.getD p61.toNat dSt15).c3)), (.bool ((ss.getD p61.toNat dSt15).c4))], kU64.row a36 c37 r38] ∧ entryplays_J4 k62 p61 l91 l92 p93 = some true) ?_ ?_
    ·
     rintro _ w94 ⟨l91, l92, p93, ⟨us, rfl⟩, hs95, hm⟩
     unfold entryplays_J4 at hm
     refine W.seq fun K96 hK96 => ?_
     have hs97 := St.f3 hs95
     obtain ⟨⟨_, ia98, ic99, la100, lc101, mn102⟩, ⟨ex103, hok104⟩, hs105⟩ := St.open hs97
     have hs106 : St B w [] w94 [zb b50 60 [(.slice ia98 r38.length ic99), (.slice la100 l92.length lc101), (.bool mn102)], kU64.row ia98 ic99 r38, kWr.row la100 lc101 l92, zb b4 31 [(zi gw), (zi gi), (zi gb)], zb b31 42 [(zi gw), (zi gi), (zi gb)], viewA (ptr b44) r38 l91, zb b80 57 [(.int .u8 ((ss.getD p61.toNat dSt15).c0)), (zi ((ss.getD p61.toNat dSt15).c1)), (.string ((ss.getD p61.toNat dSt15).c2)), (zi ((ss.getD p61.toNat dSt15).c3)), (.bool ((ss.getD p61.toNat dSt15).c4))], kU64.row a36 c37 r38] := by cases ex103; exact hs105
     have := hok104.many
     have hs107 := hs106.drew
     refine W.regionD [(0, 0), (1, 1), (2, 2), (4, 4), (12, 12), (4, 4), (36, 36), (68, 68), (132, 132), (276, 276), (516, 516), (1028, 1028)] (fun w_ => St B w [] w_ [zb b50 60 [(.slice ia98 r38.length ic99), (.slice la100 l92.length lc101), (.bool mn102)], kU64.row ia98 ic99 r38, kWr.row la100 lc101 l92, zb b4 31 [(zi gw), (zi gi), (zi gb)], zb b31 42 [(zi gw), (zi gi), (zi gb)], viewA (ptr b44) r38 l91, zb b80 57 [(.int .u8 ((ss.getD p61.toNat dSt15).c0)), (zi ((ss.getD p61.toNat dSt15).c1)), (.string ((ss.getD p61.toNat dSt15).c2)), (zi ((ss.getD p61.toNat dSt15).c3)), (.bool ((ss.getD p61.toNat dSt15).c4))], kU64.row a36 c37 r38]) (by kernel_rfl) hs107 ?_
     refine zA (.bool p93) 0 hs107 ?_
     refine zA (.bool (!p93)) 1 hs107 ?_
     refine zA (.bool (!p93)) 2 hs107 ?_
     rcases Bool.eq_false_or_eq_true (!p93) with h108 | h108
     rotate_left
     ·
      have h108p : p93 = true := (bnot_false h108)
      replace hm := ite_yes hm h108p
      refine any_set 217 (v := .bool false) (eq_bool_of (by kernel_rfl) h108) ?_
      refine any_set 218 (v := .bool false) (eq_bool_of (by kernel_rfl) h108) ?_
      refine zA (zp b44) 3 hs107 ?_
      refine zA (zp b50) 5 hs107 ?_
      refine zA (zp b50) 6 hs107 ?_
      refine zA (.pointer (some ⟨b50, 1, none⟩)) 7 hs107 ?_
      refine zB 8 ⟨b50, 1, none⟩ (.slice la100 l92.length lc101) (fun _ hS_ => (hS_.cellAt 0 rfl rfl)) hs107 ?_
      refine any_step 4 (by kernel_rfl) (by kernel_rfl) ?_
      refine ops_call0 hs107 (by kernel_rfl) (writes_spec (hv := (hs107.entAt 5 rfl viewA_at)) B _) ?_
      rintro _ _ w111 ⟨a109, c110, rfl, rfl⟩ hs112
      have hs113 := St.ap1 hs112
      have hs114 := St.f8 hs113
      have hs115 := St.f8 hs114
      have hs116 := St.f8 hs115
      have hs117 := St.f8 hs116
      have hs118 := St.f8 hs117
      have hs119 := St.f8 hs118
      have hs120 := St.f8 hs119
      have hs121 := St.f8 hs120
      have hs122 := St.tk8 hs121
      refine ops_done (by kernel_rfl) ⟨hs122, ?_⟩
      refine any_step 9 (by kernel_rfl) (by kernel_rfl) ?_
      obtain ⟨h123, hm⟩ := need_some hm
      refine zC00 hs113 (same05_spec (xs := l91) (ys := l92) (xc := c110) (yc := lc101) (n := l91.length) (m := l92.length) (hn := rfl) (hm := rfl) (hx := (St.kcells kWr hs113 0 rfl)) (hy := (St.kcells kWr hs113 3 rfl)) (hsz := h123) B _) fun w124 hs126 => ?_
      have hs127 := St.f8 hs126
      have hs128 := St.f8 hs127
      have hs129 := St.f8 hs128
      have hs130 := St.f8 hs129
      have hs131 := St.f8 hs130
      have hs132 := St.f8 hs131
      have hs133 := St.f8 hs132
      have hs134 := St.f8 hs133
      have hs135 := St.tk8 hs134
      refine ops_done (by kernel_rfl) ⟨hs135, ?_⟩
      refine zA (.bool (!(decide (l91 = l92)))) 10 hs135 ?_
      refine zA (.bool (!(decide (l91 = l92)))) 11 hs135 ?_
      refine any_done (by kernel_rfl) ?_
      have hs136 := St.f8 hs126
      have hs137 := St.f8 hs136
      have hs138 := St.f8 hs137
      have hs139 := St.f8 hs138
      have hs140 := St.f8 hs139
      have hs141 := St.f5 hs140
      have hs142 := St.f8 hs141
      have hs143 := St.f8 hs142
      have hs144 := St.f8 hs143
      have hs145 : St B w [] w124 [refA (ptr b50) r38 l92, kWr.row a109 c110 l91, zb b4 31 [(zi gw), (zi gi), (zi gb)], zb b31 42 [(zi gw), (zi gi), (zi gb)], viewA (ptr b44) r38 l91, zb b80 57 [(.int .u8 ((ss.getD p61.toNat dSt15).c0)), (zi ((ss.getD p61.toNat dSt15).c1)), (.string ((ss.getD p61.toNat dSt15).c2)), (zi ((ss.getD p61.toNat dSt15).c3)), (.bool ((ss.getD p61.toNat dSt15).c4))], kU64.row a36 c37 r38] := ref_close (l := l92) (ia := ia98) (ic := ic99) (la := la100) (lc := lc101) (many := mn102) hok104 hs144
      refine hK96 _ _ ?_
      refine W.cond (!(decide (l91 = l92))) (by kernel_rfl) (fun h146 => ?_) (fun h146 => ?_)
      rotate_left
      ·
       have h146p : l91 = l92 := of_decide_eq_true (bnot_false h146)
       replace hm := ite_yes hm h146p
       refine W.skip ?_
       refine normal_block ?_
       refine hK74 _ _ ?_
       refine W.region ?_
       refine zR 1 ?_
       obtain ⟨h147, hm⟩ := need_some hm
       refine zI _ (wrap_i64 h147.1 h147.2) ?_
       refine zE 1 ?_
       have hs148 := St.f6 hs145
       have hs149 := St.f1 hs148
       have hs150 := St.f5 hs149
       have hs151 := St.f5 hs150
       have hs152 := St.f5 hs151
       have hs153 := St.tk5 hs152
       refine loopAt_next ?_
       exact ih63 (l91, l92, (p61 + 1)) _ _ ⟨slots_intro _ (by kernel_rfl), hs153⟩ hm
      have h146p : ¬ (l91 = l92) := of_decide_eq_false (bnot_true h146)
      replace hm := ite_no hm h146p
      refine W.sr fun K154 hK154 => ?_
      refine zE 1 (hK154 _ _ ?_)
      refine W.ret (ret_block (ret_seq (ret_seq (ret_block (ret_seq ?_)))))
      have hs155 := St.tk0 hs145
      refine ret_of (.bool false) (by kernel_rfl) ⟨_, ⟨congrArg Value.bool (some_inj hm), rfl⟩, hs155⟩
     have h108p : ¬ (p93 = true) := ne_true_of_eq_false (bnot_true h108)
     replace hm := ite_no hm h108p
     refine any_set 217 (v := .bool true) (eq_bool_of (by kernel_rfl) h108) ?_
     refine any_set 218 (v := .bool true) (eq_bool_of (by kernel_rfl) h108) ?_
     refine any_skip 3 (by kernel_rfl) (by kernel_rfl) hs107 ?_
     refine any_skip 4 (by kernel_rfl) (by kernel_rfl) hs107 ?_
     refine any_skip 5 (by kernel_rfl) (by kernel_rfl) hs107 ?_
     refine any_skip 6 (by kernel_rfl) (by kernel_rfl) hs107 ?_
     refine any_skip 7 (by kernel_rfl) (by kernel_rfl) hs107 ?_
     refine any_skip 8 (by kernel_rfl) (by kernel_rfl) hs107 ?_
     refine any_skip 9 (by kernel_rfl) (by kernel_rfl) hs107 ?_
     refine any_skip 10 (by kernel_rfl) (by kernel_rfl) hs107 ?_
     refine zA (.bool true) 11 hs107 ?_
     refine any_done (by kernel_rfl) ?_
     have hs156 : St B w [] w94.drew [refA (ptr b50) r38 l92, zb b4 31 [(zi gw), (zi gi), (zi gb)], zb b31 42 [(zi gw), (zi gi), (zi gb)], viewA (ptr b44) r38 l91, zb b80 57 [(.int .u8 ((ss.getD p61.toNat dSt15).c0)), (zi ((ss.getD p61.toNat dSt15).c1)), (.string ((ss.getD p61.toNat dSt15).c2)), (zi ((ss.getD p61.toNat dSt15).c3)), (.bool ((ss.getD p61.toNat dSt15).c4))], kU64.row a36 c37 r38] := ref_close (l := l92) (ia := ia98) (ic := ic99) (la := la100) (lc := lc101) (many := mn102) hok104 hs107
     refine hK96 _ _ ?_
     refine W.cond_true true (by kernel_rfl) rfl ?_
     refine W.sr fun K157 hK157 => ?_
     refine zE 1 (hK157 _ _ ?_)
     refine W.ret (ret_block (ret_seq (ret_seq (ret_block (ret_seq ?_)))))
     have hs158 := St.tk0 hs156
     refine ret_of (.bool false) (by kernel_rfl) ⟨_, ⟨congrArg Value.bool (some_inj hm), rfl⟩, hs158⟩
    refine W.sr fun K159 hK159 => ?_
    refine zR 1 ?_
    refine zL ⟨b80, 0, none⟩ (.int .u8 ((ss.getD p61.toNat dSt15).c0)) (hs90.cellAt 4 rfl rfl) ?_
    refine zE 1 (hK159 _ _ ?_)
    refine W.block ?_
    refine W.sr fun K160 hK160 => ?_
    refine zE 2 (hK160 _ _ ?_)
    refine W.cond (decide (((ss.getD p61.toNat dSt15).c0).tmod 5 = 0)) (by kernel_rfl) (fun h161 => ?_) (fun h161 => ?_)
    ·
     obtain ⟨h161p, hm⟩ := iY hm h161
     refine W.sr fun K162 hK162 => ?_
     refine zR 1 ?_
     refine zG ⟨b4, 0, none⟩ [(zi gw), (zi gi), (zi gb)] (cells_sub (hs90.heapAt 0 rfl) rfl) ?_
     refine zR 1 ?_
     refine zL ⟨b80, 1, none⟩ (zi ((ss.getD p61.toNat dSt15).c1)) (hs90.cellAt 4 rfl rfl) ?_
     refine zR 2 ?_
     refine zL ⟨b80, 2, none⟩ (.string ((ss.getD p61.toNat dSt15).c2)) (hs90.cellAt 4 rfl rfl) ?_
     obtain ⟨r163, h164, hm⟩ := bind_some hm
     have hs165 := St.f2 hs90
     refine zC11 hs165 (eFind_walk (vb := b44) (gw := gw) (gi := gi) (gb := gb) (n_ := (ss.getD p61.toNat dSt15).c1) (tx_ := (ss.getD p61.toNat dSt15).c2) (img := r38) (l := l84) (hm := h164) B _) fun w166 hs168 => ?_
     refine zR 4 ?_
     refine zN [(.string ByteArray.empty), (zi 0)] 33 hs168 fun b171 w169 hs170 => ?_
     refine zT 0 [(.string r163.1), (zi r163.2.1)] [(.string r163.1), (zi r163.2.1)] hs170 fun w172 hs174 => ?_
     refine zE 2 (hK162 _ _ ?_)
     refine W.sr fun K175 hK175 => ?_
     refine zR 1 ?_
     refine zG ⟨b31, 0, none⟩ [(zi gw), (zi gi), (zi gb)] (cells_sub (hs174.heapAt 3 rfl) rfl) ?_
     refine zR 1 ?_
     refine zL ⟨b80, 1, none⟩ (zi ((ss.getD p61.toNat dSt15).c1)) (hs174.cellAt 5 rfl rfl) ?_
     refine zR 2 ?_
     refine zL ⟨b80, 2, none⟩ (.string ((ss.getD p61.toNat dSt15).c2)) (hs174.cellAt 5 rfl rfl) ?_
     obtain ⟨r176, h177, hm⟩ := bind_some hm
     have hs178 := St.f4 hs174
     refine zC11 hs178 (rFind15_walk (vb := b50) (gw := gw) (gi := gi) (gb := gb) (n_ := (ss.getD p61.toNat dSt15).c1) (tx_ := (ss.getD p61.toNat dSt15).c2) (img := r38) (l := l85) (hm := h177) B _) fun w179 hs181 => ?_
     refine zR 4 ?_
     refine zN [(.string ByteArray.empty), (zi 0)] 61 hs181 fun b184 w182 hs183 => ?_
     refine zT 0 [(.string r176.1), (zi r176.2.1)] [(.string r176.1), (zi r176.2.1)] hs183 fun w185 hs187 => ?_
     refine zE 2 (hK175 _ _ ?_)
     refine W.region ?_
     refine zR 2 ?_
     rcases Bool.eq_false_or_eq_true p88 with h188 | h188
     ·
      have h188p : p88 = true := h188
      replace hm := ite_yes hm h188p
      refine zS 139 h188 ?_
      refine zS 15 h188 ?_
      refine zS 138 h188 ?_
      refine zG ⟨b171, 0, none⟩ [(.string r163.1), (zi r163.2.1)] (cells_sub (hs187.heapAt 2 rfl) rfl) ?_
      refine zG ⟨b184, 0, none⟩ [(.string r176.1), (zi r176.2.1)] (cells_sub (hs187.heapAt 0 rfl) rfl) ?_
      refine ops_R (v := (.bool ((r163.1 == r176.1) && ((decide (r163.2.1 = r176.2.1)) && true)))) (runs_eq (b := ((r163.1 == r176.1) && ((decide (r163.2.1 = r176.2.1)) && true))) (by kernel_rfl)) ?_
      refine zR 2 ?_
      rcases Bool.eq_false_or_eq_true ((r163.1 == r176.1) && ((decide (r163.2.1 = r176.2.1)) && true)) with h189 | h189
      ·
       have h189p : r163.1 = r176.1 ∧ r163.2.1 = r176.2.1 := by simpa using h189
       replace hm := ite_yes hm h189p
       refine zS 144 h189 ?_
       refine zS 142 h189 ?_
       refine zS 143 h189 ?_
       refine zR 5 ?_
       rcases Bool.eq_false_or_eq_true (decide (r163.2.2.1 = r176.2.2.1)) with h190 | h190
       ·
        obtain ⟨h190p, hm⟩ := iY hm h190
        refine zS 149 h190 ?_
        refine zS 147 h190 ?_
        refine zS 148 h190 ?_
        refine zE 5 ?_
        refine normal_block ?_
        have hs191 := St.f7 hs187
        have hs192 := St.f7 hs191
        have hs193 := St.f3 hs192
        have hs194 := St.f5 hs193
        have hs195 := St.f7 hs194
        have hs196 := St.f7 hs195
        have hs197 := St.tk6 hs196
        exact ⟨l84, l85, (decide (r163.2.2.2 = r176.2.2.2)), slots_intro _ (by kernel_rfl), hs197, hm⟩
       obtain ⟨h190p, hm⟩ := iN hm h190
       refine zS 149 h190 ?_
       refine zS 147 h190 ?_
       refine zS 148 h190 ?_
       refine zE 5 ?_
       refine normal_block ?_
       have hs198 := St.f7 hs187
       have hs199 := St.f7 hs198
       have hs200 := St.f3 hs199
       have hs201 := St.f5 hs200
       have hs202 := St.f7 hs201
       have hs203 := St.f7 hs202
       have hs204 := St.tk6 hs203
       exact ⟨l84, l85, false, slots_intro _ (by kernel_rfl), hs204, hm⟩
      have h189p : ¬ (r163.1 = r176.1 ∧ r163.2.1 = r176.2.1) := by simpa using h189
      replace hm := ite_no hm h189p
      refine zS 144 h189 ?_
      refine zS 142 h189 ?_
      refine zS 143 h189 ?_
      refine zE 10 ?_
      refine normal_block ?_
      have hs205 := St.f7 hs187
      have hs206 := St.f7 hs205
      have hs207 := St.f3 hs206
      have hs208 := St.f5 hs207
      have hs209 := St.f7 hs208
      have hs210 := St.f7 hs209
      have hs211 := St.tk6 hs210
      exact ⟨l84, l85, false, slots_intro _ (by kernel_rfl), hs211, hm⟩
     have h188p : ¬ (p88 = true) := ne_true_of_eq_false h188
     replace hm := ite_no hm h188p
     refine zS 139 h188 ?_
     refine zS 15 h188 ?_
     refine zS 138 h188 ?_
     refine zE 15 ?_
     refine normal_block ?_
     have hs212 := St.f7 hs187
     have hs213 := St.f7 hs212
     have hs214 := St.f3 hs213
     have hs215 := St.f5 hs214
     have hs216 := St.f7 hs215
     have hs217 := St.f7 hs216
     have hs218 := St.tk6 hs217
     exact ⟨l84, l85, false, slots_intro _ (by kernel_rfl), hs218, hm⟩
    obtain ⟨h161p, hm⟩ := iN hm h161
    refine W.sr fun K219 hK219 => ?_
    refine zE 2 (hK219 _ _ ?_)
    refine W.cond (decide (((ss.getD p61.toNat dSt15).c0).tmod 5 = 1)) (by kernel_rfl) (fun h220 => ?_) (fun h220 => ?_)
    ·
     obtain ⟨h220p, hm⟩ := iY hm h220
     have hs221 := hs90.drew
     have hs222 := St.f5 hs221
     have hs223 := St.f5 hs222
     have hs224 := St.f3 hs223
     have hs225 := St.f3 hs224
     have hs226 := St.tk4 hs225
     refine W.regionD [(0, 0), (1, 1), (2, 2), (2, 2), (2, 2), (18, 18), (2, 2), (66, 66), (174, 174), (2, 2), (2, 2), (2, 2), (2050, 2050), (2, 2), (8194, 8194), (22274, 22018), (33026, 33026), (65538, 65538), (262143, 131073)] (fun w_ => St B w [] w_ [zb b4 31 [(zi gw), (zi gi), (zi gb)], zb b31 42 [(zi gw), (zi gi), (zi gb)], zb b80 57 [(.int .u8 ((ss.getD p61.toNat dSt15).c0)), (zi ((ss.getD p61.toNat dSt15).c1)), (.string ((ss.getD p61.toNat dSt15).c2)), (zi ((ss.getD p61.toNat dSt15).c3)), (.bool ((ss.getD p61.toNat dSt15).c4))], kU64.row a36 c37 r38]) (by kernel_rfl) hs226 ?_
     refine zA (.bool p88) 0 hs226 ?_
     refine zA (.bool p88) 1 hs226 ?_
     rcases Bool.eq_false_or_eq_true p88 with h227 | h227
     ·
      have h227p : p88 = true := h227
      replace hm := ite_yes hm h227p
      refine any_set 15 (v := .bool true) (eq_bool_of (by kernel_rfl) h227) ?_
      refine any_set 156 (v := .bool true) (eq_bool_of (by kernel_rfl) h227) ?_
      refine any_set 157 (v := .bool true) (eq_bool_of (by kernel_rfl) h227) ?_
      refine zA (zp b44) 2 hs226 ?_
      refine any_R 3 (by kernel_rfl) (fun _ hS_ => runs_loadAgg (ad := ⟨b4, 0, none⟩) (cs := [(zi gw), (zi gi), (zi gb)]) (by kernel_rfl) (cells_sub (hS_.heapAt 0 rfl) rfl)) hs226 ?_
      refine zA (.pointer (some ⟨b80, 1, none⟩)) 4 hs226 ?_
      refine zB 5 ⟨b80, 1, none⟩ (zi ((ss.getD p61.toNat dSt15).c1)) (fun _ hS_ => (hS_.cellAt 2 rfl rfl)) hs226 ?_
      refine zA (.pointer (some ⟨b80, 2, none⟩)) 6 hs226 ?_
      refine any_R 7 (by kernel_rfl) (fun _ hS_ => runs_loadAgg (ad := ⟨b80, 2, none⟩) (cs := [(.string ((ss.getD p61.toNat dSt15).c2)), (zi ((ss.getD p61.toNat dSt15).c3))]) (by kernel_rfl) (cells_sub (hS_.heapAt 2 rfl) rfl)) hs226 ?_
      refine zA (zp b50) 9 hs226 ?_
      refine any_R 10 (by kernel_rfl) (fun _ hS_ => runs_loadAgg (ad := ⟨b31, 0, none⟩) (cs := [(zi gw), (zi gi), (zi gb)]) (by kernel_rfl) (cells_sub (hS_.heapAt 1 rfl) rfl)) hs226 ?_
      refine zA (.pointer (some ⟨b80, 1, none⟩)) 11 hs226 ?_
      refine zB 12 ⟨b80, 1, none⟩ (zi ((ss.getD p61.toNat dSt15).c1)) (fun _ hS_ => (hS_.cellAt 2 rfl rfl)) hs226 ?_
      refine zA (.pointer (some ⟨b80, 2, none⟩)) 13 hs226 ?_
      refine any_R 14 (by kernel_rfl) (fun _ hS_ => runs_loadAgg (ad := ⟨b80, 2, none⟩) (cs := [(.string ((ss.getD p61.toNat dSt15).c2)), (zi ((ss.getD p61.toNat dSt15).c3))]) (by kernel_rfl) (cells_sub (hS_.heapAt 2 rfl) rfl)) hs226 ?_
      refine any_step 8 (by kernel_rfl) (by kernel_rfl) ?_
      obtain ⟨r228, h229, hm⟩ := bind_some hm
      have hs230 := St.f2 hs221
      refine zC11 hs230 (eAdd_walk (vb := b44) (hG := hG) (hT := (hs221.oldCells hT)) (gw := gw) (gi := gi) (gb := gb) (n_ := (ss.getD p61.toNat dSt15).c1) (xn_ := (ss.getD p61.toNat dSt15).c2) (xi_ := (ss.getD p61.toNat dSt15).c3) (img := r38) (l := l84) (hm := h229) B _) fun w231 hs233 => ?_
      have hs234 := St.f5 hs233
      have hs235 := St.f5 hs234
      have hs236 := St.f4 hs235
      have hs237 := St.f4 hs236
      have hs238 := St.tk4 hs237
      refine ops_done (by kernel_rfl) ⟨hs238, ?_⟩
      refine any_step 15 (by kernel_rfl) (by kernel_rfl) ?_
      obtain ⟨r239, h240, hm⟩ := bind_some hm
      have hs241 := St.f3 hs233
      refine zC11 hs241 (rAdd15_walk (vb := b50) (gw := gw) (gi := gi) (gb := gb) (n_ := (ss.getD p61.toNat dSt15).c1) (xn_ := (ss.getD p61.toNat dSt15).c2) (xi_ := (ss.getD p61.toNat dSt15).c3) (img := r38) (l := l85) (hm := h240) B _) fun w242 hs244 => ?_
      have hs245 := St.f5 hs244
      have hs246 := St.f5 hs245
      have hs247 := St.f5 hs246
      have hs248 := St.f5 hs247
      have hs249 := St.tk4 hs248
      refine ops_done (by kernel_rfl) ⟨hs249, ?_⟩
      refine zA (.bool (decide (r228.1 = r239.1))) 16 hs249 ?_
      refine zA (.bool (decide (r228.1 = r239.1))) 17 hs249 ?_
      refine zA (.bool (decide (r228.1 = r239.1))) 18 hs249 ?_
      refine any_done (by kernel_rfl) ?_
      refine normal_block ?_
      have hs250 := St.f5 hs244
      have hs251 := St.f5 hs250
      have hs252 := St.f2 hs251
      have hs253 := St.f3 hs252
      have hs254 := St.f5 hs253
      have hs255 := St.f5 hs254
      exact ⟨r228.2, r239.2, (decide (r228.1 = r239.1)), slots_intro _ (by kernel_rfl), hs255, hm⟩
     have h227p : ¬ (p88 = true) := ne_true_of_eq_false h227
     replace hm := ite_no hm h227p
     refine any_set 15 (v := .bool false) (eq_bool_of (by kernel_rfl) h227) ?_
     refine any_set 156 (v := .bool false) (eq_bool_of (by kernel_rfl) h227) ?_
     refine any_set 157 (v := .bool false) (eq_bool_of (by kernel_rfl) h227) ?_
     refine any_skip 2 (by kernel_rfl) (by kernel_rfl) hs226 ?_
     refine any_skip 3 (by kernel_rfl) (by kernel_rfl) hs226 ?_
     refine any_skip 4 (by kernel_rfl) (by kernel_rfl) hs226 ?_
     refine any_skip 5 (by kernel_rfl) (by kernel_rfl) hs226 ?_
     refine any_skip 6 (by kernel_rfl) (by kernel_rfl) hs226 ?_
     refine any_skip 7 (by kernel_rfl) (by kernel_rfl) hs226 ?_
     refine any_skip 8 (by kernel_rfl) (by kernel_rfl) hs226 ?_
     refine any_skip 9 (by kernel_rfl) (by kernel_rfl) hs226 ?_
     refine any_skip 10 (by kernel_rfl) (by kernel_rfl) hs226 ?_
     refine any_skip 11 (by kernel_rfl) (by kernel_rfl) hs226 ?_
     refine any_skip 12 (by kernel_rfl) (by kernel_rfl) hs226 ?_
     refine any_skip 13 (by kernel_rfl) (by kernel_rfl) hs226 ?_
     refine any_skip 14 (by kernel_rfl) (by kernel_rfl) hs226 ?_
     refine any_skip 15 (by kernel_rfl) (by kernel_rfl) hs226 ?_
     refine any_skip 16 (by kernel_rfl) (by kernel_rfl) hs226 ?_
     refine zA (.bool false) 17 hs226 ?_
     refine zA (.bool false) 18 hs226 ?_
     refine any_done (by kernel_rfl) ?_
     refine normal_block ?_
     exact ⟨l84, l85, false, slots_intro _ (by kernel_rfl), hs221, hm⟩
    obtain ⟨h220p, hm⟩ := iN hm h220
    refine W.sr fun K256 hK256 => ?_
    refine zE 2 (hK256 _ _ ?_)
    refine W.cond (decide (((ss.getD p61.toNat dSt15).c0).tmod 5 = 2)) (by kernel_rfl) (fun h257 => ?_) (fun h257 => ?_)
    ·
     obtain ⟨h257p, hm⟩ := iY hm h257
     have hs258 := hs90.drew
     have hs259 := St.f5 hs258
     have hs260 := St.f5 hs259
     have hs261 := St.f3 hs260
     have hs262 := St.f3 hs261
     have hs263 := St.tk4 hs262
     refine W.regionD [(0, 0), (1, 1), (2, 2), (2, 2), (2, 2), (18, 18), (2, 2), (66, 66), (174, 174), (2, 2), (2, 2), (2, 2), (2050, 2050), (2, 2), (8194, 8194), (22274, 22018), (33026, 33026), (65538, 65538), (262143, 131073)] (fun w_ => St B w [] w_ [zb b4 31 [(zi gw), (zi gi), (zi gb)], zb b31 42 [(zi gw), (zi gi), (zi gb)], zb b80 57 [(.int .u8 ((ss.getD p61.toNat dSt15).c0)), (zi ((ss.getD p61.toNat dSt15).c1)), (.string ((ss.getD p61.toNat dSt15).c2)), (zi ((ss.getD p61.toNat dSt15).c3)), (.bool ((ss.getD p61.toNat dSt15).c4))], kU64.row a36 c37 r38]) (by kernel_rfl) hs263 ?_
     refine zA (.bool p88) 0 hs263 ?_
     refine zA (.bool p88) 1 hs263 ?_
     rcases Bool.eq_false_or_eq_true p88 with h264 | h264
     ·
      have h264p : p88 = true := h264
      replace hm := ite_yes hm h264p
      refine any_set 15 (v := .bool true) (eq_bool_of (by kernel_rfl) h264) ?_
      refine any_set 176 (v := .bool true) (eq_bool_of (by kernel_rfl) h264) ?_
      refine any_set 177 (v := .bool true) (eq_bool_of (by kernel_rfl) h264) ?_
      refine zA (zp b44) 2 hs263 ?_
      refine any_R 3 (by kernel_rfl) (fun _ hS_ => runs_loadAgg (ad := ⟨b4, 0, none⟩) (cs := [(zi gw), (zi gi), (zi gb)]) (by kernel_rfl) (cells_sub (hS_.heapAt 0 rfl) rfl)) hs263 ?_
      refine zA (.pointer (some ⟨b80, 1, none⟩)) 4 hs263 ?_
      refine zB 5 ⟨b80, 1, none⟩ (zi ((ss.getD p61.toNat dSt15).c1)) (fun _ hS_ => (hS_.cellAt 2 rfl rfl)) hs263 ?_
      refine zA (.pointer (some ⟨b80, 2, none⟩)) 6 hs263 ?_
      refine any_R 7 (by kernel_rfl) (fun _ hS_ => runs_loadAgg (ad := ⟨b80, 2, none⟩) (cs := [(.string ((ss.getD p61.toNat dSt15).c2)), (zi ((ss.getD p61.toNat dSt15).c3))]) (by kernel_rfl) (cells_sub (hS_.heapAt 2 rfl) rfl)) hs263 ?_
      refine zA (zp b50) 9 hs263 ?_
      refine any_R 10 (by kernel_rfl) (fun _ hS_ => runs_loadAgg (ad := ⟨b31, 0, none⟩) (cs := [(zi gw), (zi gi), (zi gb)]) (by kernel_rfl) (cells_sub (hS_.heapAt 1 rfl) rfl)) hs263 ?_
      refine zA (.pointer (some ⟨b80, 1, none⟩)) 11 hs263 ?_
      refine zB 12 ⟨b80, 1, none⟩ (zi ((ss.getD p61.toNat dSt15).c1)) (fun _ hS_ => (hS_.cellAt 2 rfl rfl)) hs263 ?_
      refine zA (.pointer (some ⟨b80, 2, none⟩)) 13 hs263 ?_
      refine any_R 14 (by kernel_rfl) (fun _ hS_ => runs_loadAgg (ad := ⟨b80, 2, none⟩) (cs := [(.string ((ss.getD p61.toNat dSt15).c2)), (zi ((ss.getD p61.toNat dSt15).c3))]) (by kernel_rfl) (cells_sub (hS_.heapAt 2 rfl) rfl)) hs263 ?_
      refine any_step 8 (by kernel_rfl) (by kernel_rfl) ?_
      obtain ⟨r265, h266, hm⟩ := bind_some hm
      have hs267 := St.f2 hs258
      refine zC11 hs267 (eChange_walk (vb := b44) (gw := gw) (gi := gi) (gb := gb) (n_ := (ss.getD p61.toNat dSt15).c1) (xn_ := (ss.getD p61.toNat dSt15).c2) (xi_ := (ss.getD p61.toNat dSt15).c3) (img := r38) (l := l84) (hm := h266) B _) fun w268 hs270 => ?_
      have hs271 := St.f5 hs270
      have hs272 := St.f5 hs271
      have hs273 := St.f4 hs272
      have hs274 := St.f4 hs273
      have hs275 := St.tk4 hs274
      refine ops_done (by kernel_rfl) ⟨hs275, ?_⟩
      refine any_step 15 (by kernel_rfl) (by kernel_rfl) ?_
      obtain ⟨r276, h277, hm⟩ := bind_some hm
      have hs278 := St.f3 hs270
      refine zC11 hs278 (rChange15_walk (vb := b50) (gw := gw) (gi := gi) (gb := gb) (n_ := (ss.getD p61.toNat dSt15).c1) (xn_ := (ss.getD p61.toNat dSt15).c2) (xi_ := (ss.getD p61.toNat dSt15).c3) (img := r38) (l := l85) (hm := h277) B _) fun w279 hs281 => ?_
      have hs282 := St.f5 hs281
      have hs283 := St.f5 hs282
      have hs284 := St.f5 hs283
      have hs285 := St.f5 hs284
      have hs286 := St.tk4 hs285
      refine ops_done (by kernel_rfl) ⟨hs286, ?_⟩
      refine zA (.bool (decide (r265.1 = r276.1))) 16 hs286 ?_
      refine zA (.bool (decide (r265.1 = r276.1))) 17 hs286 ?_
      refine zA (.bool (decide (r265.1 = r276.1))) 18 hs286 ?_
      refine any_done (by kernel_rfl) ?_
      refine normal_block ?_
      have hs287 := St.f5 hs281
      have hs288 := St.f5 hs287
      have hs289 := St.f2 hs288
      have hs290 := St.f3 hs289
      have hs291 := St.f5 hs290
      have hs292 := St.f5 hs291
      exact ⟨r265.2, r276.2, (decide (r265.1 = r276.1)), slots_intro _ (by kernel_rfl), hs292, hm⟩
     have h264p : ¬ (p88 = true) := ne_true_of_eq_false h264
     replace hm := ite_no hm h264p
     refine any_set 15 (v := .bool false) (eq_bool_of (by kernel_rfl) h264) ?_
     refine any_set 176 (v := .bool false) (eq_bool_of (by kernel_rfl) h264) ?_
     refine any_set 177 (v := .bool false) (eq_bool_of (by kernel_rfl) h264) ?_
     refine any_skip 2 (by kernel_rfl) (by kernel_rfl) hs263 ?_
     refine any_skip 3 (by kernel_rfl) (by kernel_rfl) hs263 ?_
     refine any_skip 4 (by kernel_rfl) (by kernel_rfl) hs263 ?_
     refine any_skip 5 (by kernel_rfl) (by kernel_rfl) hs263 ?_
     refine any_skip 6 (by kernel_rfl) (by kernel_rfl) hs263 ?_
     refine any_skip 7 (by kernel_rfl) (by kernel_rfl) hs263 ?_
     refine any_skip 8 (by kernel_rfl) (by kernel_rfl) hs263 ?_
     refine any_skip 9 (by kernel_rfl) (by kernel_rfl) hs263 ?_
     refine any_skip 10 (by kernel_rfl) (by kernel_rfl) hs263 ?_
     refine any_skip 11 (by kernel_rfl) (by kernel_rfl) hs263 ?_
     refine any_skip 12 (by kernel_rfl) (by kernel_rfl) hs263 ?_
     refine any_skip 13 (by kernel_rfl) (by kernel_rfl) hs263 ?_
     refine any_skip 14 (by kernel_rfl) (by kernel_rfl) hs263 ?_
     refine any_skip 15 (by kernel_rfl) (by kernel_rfl) hs263 ?_
     refine any_skip 16 (by kernel_rfl) (by kernel_rfl) hs263 ?_
     refine zA (.bool false) 17 hs263 ?_
     refine zA (.bool false) 18 hs263 ?_
     refine any_done (by kernel_rfl) ?_
     refine normal_block ?_
     exact ⟨l84, l85, false, slots_intro _ (by kernel_rfl), hs258, hm⟩
    obtain ⟨h257p, hm⟩ := iN hm h257
    refine W.sr fun K293 hK293 => ?_
    refine zE 2 (hK293 _ _ ?_)
    refine W.cond (decide (((ss.getD p61.toNat dSt15).c0).tmod 5 = 3)) (by kernel_rfl) (fun h294 => ?_) (fun h294 => ?_)
    ·
     obtain ⟨h294p, hm⟩ := iY hm h294
     have hs295 := hs90.drew
     have hs296 := St.f5 hs295
     have hs297 := St.f5 hs296
     have hs298 := St.f3 hs297
     have hs299 := St.f3 hs298
     have hs300 := St.tk4 hs299
     refine W.regionD [(0, 0), (1, 1), (2, 2), (2, 2), (2, 2), (18, 18), (2, 2), (66, 66), (130, 130), (302, 302), (2, 2), (2, 2), (2, 2), (4098, 4098), (2, 2), (16386, 16386), (32770, 32770), (77314, 76802), (131586, 131586), (262146, 262146), (1048575, 524289)] (fun w_ => St B w [] w_ [zb b4 31 [(zi gw), (zi gi), (zi gb)], zb b31 42 [(zi gw), (zi gi), (zi gb)], zb b80 57 [(.int .u8 ((ss.getD p61.toNat dSt15).c0)), (zi ((ss.getD p61.toNat dSt15).c1)), (.string ((ss.getD p61.toNat dSt15).c2)), (zi ((ss.getD p61.toNat dSt15).c3)), (.bool ((ss.getD p61.toNat dSt15).c4))], kU64.row a36 c37 r38]) (by kernel_rfl) hs300 ?_
     refine zA (.bool p88) 0 hs300 ?_
     refine zA (.bool p88) 1 hs300 ?_
     rcases Bool.eq_false_or_eq_true p88 with h301 | h301
     ·
      have h301p : p88 = true := h301
      replace hm := ite_yes hm h301p
      refine any_set 15 (v := .bool true) (eq_bool_of (by kernel_rfl) h301) ?_
      refine any_set 196 (v := .bool true) (eq_bool_of (by kernel_rfl) h301) ?_
      refine any_set 197 (v := .bool true) (eq_bool_of (by kernel_rfl) h301) ?_
      refine zA (zp b44) 2 hs300 ?_
      refine any_R 3 (by kernel_rfl) (fun _ hS_ => runs_loadAgg (ad := ⟨b4, 0, none⟩) (cs := [(zi gw), (zi gi), (zi gb)]) (by kernel_rfl) (cells_sub (hS_.heapAt 0 rfl) rfl)) hs300 ?_
      refine zA (.pointer (some ⟨b80, 1, none⟩)) 4 hs300 ?_
      refine zB 5 ⟨b80, 1, none⟩ (zi ((ss.getD p61.toNat dSt15).c1)) (fun _ hS_ => (hS_.cellAt 2 rfl rfl)) hs300 ?_
      refine zA (.pointer (some ⟨b80, 2, none⟩)) 6 hs300 ?_
      refine zA (.pointer (some ⟨b80, 2, none⟩)) 7 hs300 ?_
      refine zB 8 ⟨b80, 2, none⟩ (.string ((ss.getD p61.toNat dSt15).c2)) (fun _ hS_ => (hS_.cellAt 2 rfl rfl)) hs300 ?_
      refine zA (zp b50) 10 hs300 ?_
      refine any_R 11 (by kernel_rfl) (fun _ hS_ => runs_loadAgg (ad := ⟨b31, 0, none⟩) (cs := [(zi gw), (zi gi), (zi gb)]) (by kernel_rfl) (cells_sub (hS_.heapAt 1 rfl) rfl)) hs300 ?_
      refine zA (.pointer (some ⟨b80, 1, none⟩)) 12 hs300 ?_
      refine zB 13 ⟨b80, 1, none⟩ (zi ((ss.getD p61.toNat dSt15).c1)) (fun _ hS_ => (hS_.cellAt 2 rfl rfl)) hs300 ?_
      refine zA (.pointer (some ⟨b80, 2, none⟩)) 14 hs300 ?_
      refine zA (.pointer (some ⟨b80, 2, none⟩)) 15 hs300 ?_
      refine zB 16 ⟨b80, 2, none⟩ (.string ((ss.getD p61.toNat dSt15).c2)) (fun _ hS_ => (hS_.cellAt 2 rfl rfl)) hs300 ?_
      refine any_step 9 (by kernel_rfl) (by kernel_rfl) ?_
      obtain ⟨r302, h303, hm⟩ := bind_some hm
      have hs304 := St.f2 hs295
      refine zC11 hs304 (eRemove_walk (vb := b44) (gw := gw) (gi := gi) (gb := gb) (n_ := (ss.getD p61.toNat dSt15).c1) (tx_ := (ss.getD p61.toNat dSt15).c2) (img := r38) (l := l84) (hm := h303) B _) fun w305 hs307 => ?_
      have hs308 := St.f5 hs307
      have hs309 := St.f5 hs308
      have hs310 := St.f4 hs309
      have hs311 := St.f4 hs310
      have hs312 := St.tk4 hs311
      refine ops_done (by kernel_rfl) ⟨hs312, ?_⟩
      refine any_step 17 (by kernel_rfl) (by kernel_rfl) ?_
      obtain ⟨r313, h314, hm⟩ := bind_some hm
      have hs315 := St.f3 hs307
      refine zC11 hs315 (rRemove15_walk (vb := b50) (gw := gw) (gi := gi) (gb := gb) (n_ := (ss.getD p61.toNat dSt15).c1) (tx_ := (ss.getD p61.toNat dSt15).c2) (img := r38) (l := l85) (hm := h314) B _) fun w316 hs318 => ?_
      have hs319 := St.f5 hs318
      have hs320 := St.f5 hs319
      have hs321 := St.f5 hs320
      have hs322 := St.f5 hs321
      have hs323 := St.tk4 hs322
      refine ops_done (by kernel_rfl) ⟨hs323, ?_⟩
      refine zA (.bool (decide (r302.1 = r313.1))) 18 hs323 ?_
      refine zA (.bool (decide (r302.1 = r313.1))) 19 hs323 ?_
      refine zA (.bool (decide (r302.1 = r313.1))) 20 hs323 ?_
      refine any_done (by kernel_rfl) ?_
      refine normal_block ?_
      have hs324 := St.f5 hs318
      have hs325 := St.f5 hs324
      have hs326 := St.f2 hs325
      have hs327 := St.f3 hs326
      have hs328 := St.f5 hs327
      have hs329 := St.f5 hs328
      exact ⟨r302.2, r313.2, (decide (r302.1 = r313.1)), slots_intro _ (by kernel_rfl), hs329, hm⟩
     have h301p : ¬ (p88 = true) := ne_true_of_eq_false h301
     replace hm := ite_no hm h301p
     refine any_set 15 (v := .bool false) (eq_bool_of (by kernel_rfl) h301) ?_
     refine any_set 196 (v := .bool false) (eq_bool_of (by kernel_rfl) h301) ?_
     refine any_set 197 (v := .bool false) (eq_bool_of (by kernel_rfl) h301) ?_
     refine any_skip 2 (by kernel_rfl) (by kernel_rfl) hs300 ?_
     refine any_skip 3 (by kernel_rfl) (by kernel_rfl) hs300 ?_
     refine any_skip 4 (by kernel_rfl) (by kernel_rfl) hs300 ?_
     refine any_skip 5 (by kernel_rfl) (by kernel_rfl) hs300 ?_
     refine any_skip 6 (by kernel_rfl) (by kernel_rfl) hs300 ?_
     refine any_skip 7 (by kernel_rfl) (by kernel_rfl) hs300 ?_
     refine any_skip 8 (by kernel_rfl) (by kernel_rfl) hs300 ?_
     refine any_skip 9 (by kernel_rfl) (by kernel_rfl) hs300 ?_
     refine any_skip 10 (by kernel_rfl) (by kernel_rfl) hs300 ?_
     refine any_skip 11 (by kernel_rfl) (by kernel_rfl) hs300 ?_
     refine any_skip 12 (by kernel_rfl) (by kernel_rfl) hs300 ?_
     refine any_skip 13 (by kernel_rfl) (by kernel_rfl) hs300 ?_
     refine any_skip 14 (by kernel_rfl) (by kernel_rfl) hs300 ?_
     refine any_skip 15 (by kernel_rfl) (by kernel_rfl) hs300 ?_
     refine any_skip 16 (by kernel_rfl) (by kernel_rfl) hs300 ?_
     refine any_skip 17 (by kernel_rfl) (by kernel_rfl) hs300 ?_
     refine any_skip 18 (by kernel_rfl) (by kernel_rfl) hs300 ?_
     refine zA (.bool false) 19 hs300 ?_
     refine zA (.bool false) 20 hs300 ?_
     refine any_done (by kernel_rfl) ?_
     refine normal_block ?_
     exact ⟨l84, l85, false, slots_intro _ (by kernel_rfl), hs295, hm⟩
    obtain ⟨h294p, hm⟩ := iN hm h294
    refine W.sr fun K330 hK330 => ?_
    refine zR 1 ?_
    refine zG ⟨b4, 0, none⟩ [(zi gw), (zi gi), (zi gb)] (cells_sub (hs90.heapAt 0 rfl) rfl) ?_
    refine zR 1 ?_
    refine zL ⟨b80, 1, none⟩ (zi ((ss.getD p61.toNat dSt15).c1)) (hs90.cellAt 4 rfl rfl) ?_
    obtain ⟨r331, h332, hm⟩ := bind_some hm
    have hs335 := St.f2 hs90
    refine ops_call1 hs335 (by kernel_rfl) (eList_walk (vb := b44) (gw := gw) (gi := gi) (gb := gb) (n_ := (ss.getD p61.toNat dSt15).c1) (img := r38) (l := l84) (hm := h332) B _) ?_
    rintro _ _ w336 ⟨a333, c334, rfl, rfl⟩ hs337
    have hs338 := St.ap2 hs337
    refine zE 5 (hK330 _ _ ?_)
    refine W.sr fun K339 hK339 => ?_
    refine zR 1 ?_
    refine zG ⟨b31, 0, none⟩ [(zi gw), (zi gi), (zi gb)] (cells_sub (hs338.heapAt 3 rfl) rfl) ?_
    refine zR 1 ?_
    refine zL ⟨b80, 1, none⟩ (zi ((ss.getD p61.toNat dSt15).c1)) (hs338.cellAt 5 rfl rfl) ?_
    obtain ⟨r340, h341, hm⟩ := bind_some hm
    have hs344 := St.f4 hs338
    refine ops_call1 hs344 (by kernel_rfl) (rList15_walk (vb := b50) (gw := gw) (gi := gi) (gb := gb) (n_ := (ss.getD p61.toNat dSt15).c1) (img := r38) (l := l85) (hm := h341) B _) ?_
    rintro _ _ w345 ⟨a342, c343, rfl, rfl⟩ hs346
    have hs347 := St.ap2 hs346
    refine zE 5 (hK339 _ _ ?_)
    refine W.region ?_
    refine zR 2 ?_
    rcases Bool.eq_false_or_eq_true p88 with h348 | h348
    ·
     have h348p : p88 = true := h348
     replace hm := ite_yes hm h348p
     refine zS 102 h348 ?_
     refine zS 15 h348 ?_
     refine zS 101 h348 ?_
     refine zR 2 ?_
     obtain ⟨r349, h350, hm⟩ := bind_some hm
     refine zC00 hs347 (same15_walk (xs := r331.1) (ys := r340.1) (xc := c334) (yc := c343) (hx := (St.kcells kEn hs347 2 rfl)) (hy := (St.kcells kRe hs347 0 rfl)) (hm := h350) B _) fun w351 hs353 => ?_
     refine zR 2 ?_
     rcases Bool.eq_false_or_eq_true r349 with h354 | h354
     ·
      have h354p : r349 = true := h354
      replace hm := ite_yes hm h354p
      refine zS 107 h354 ?_
      refine zS 105 h354 ?_
      refine zS 106 h354 ?_
      refine zE 5 ?_
      refine normal_block ?_
      have hs355 := St.f7 hs353
      have hs356 := St.f7 hs355
      have hs357 := St.f3 hs356
      have hs358 := St.f5 hs357
      have hs359 := St.f7 hs358
      have hs360 := St.f7 hs359
      have hs361 := St.tk6 hs360
      exact ⟨l84, l85, (decide (r331.2 = r340.2)), slots_intro _ (by kernel_rfl), hs361, hm⟩
     have h354p : ¬ (r349 = true) := ne_true_of_eq_false h354
     replace hm := ite_no hm h354p
     refine zS 107 h354 ?_
     refine zS 105 h354 ?_
     refine zS 106 h354 ?_
     refine zE 5 ?_
     refine normal_block ?_
     have hs362 := St.f7 hs353
     have hs363 := St.f7 hs362
     have hs364 := St.f3 hs363
     have hs365 := St.f5 hs364
     have hs366 := St.f7 hs365
     have hs367 := St.f7 hs366
     have hs368 := St.tk6 hs367
     exact ⟨l84, l85, false, slots_intro _ (by kernel_rfl), hs368, hm⟩
    have h348p : ¬ (p88 = true) := ne_true_of_eq_false h348
    replace hm := ite_no hm h348p
    refine zS 102 h348 ?_
    refine zS 15 h348 ?_
    refine zS 101 h348 ?_
    refine zE 10 ?_
    refine normal_block ?_
    have hs369 := St.f7 hs347
    have hs370 := St.f7 hs369
    have hs371 := St.f3 hs370
    have hs372 := St.f5 hs371
    have hs373 := St.f7 hs372
    have hs374 := St.f7 hs373
    have hs375 := St.tk6 hs374
    exact ⟨l84, l85, false, slots_intro _ (by kernel_rfl), hs375, hm⟩
   have hs376 := hs87.drew
   refine W.regionD [(0, 0), (1, 1), (2, 2), (4, 4), (0, 0), (16, 16), (32, 32), (72, 64), (136, 136), (384, 256), (512, 512), (1536, 1536), (2560, 2560), (4608, 4608), (512, 512), (16896, 16896), (33280, 33280), (74240, 66048), (139776, 139776), (262656, 262656), (1048575, 524288)] (fun w_ => St B w [] w_ [zb b4 31 [(zi gw), (zi gi), (zi gb)], zb b31 42 [(zi gw), (zi gi), (zi gb)], viewA (ptr b44) r38 l84, refA (ptr b50) r38 l85, zb b80 57 [(.int .u8 ((ss.getD p61.toNat dSt15).c0)), (zi ((ss.getD p61.toNat dSt15).c1)), (.string ((ss.getD p61.toNat dSt15).c2)), (zi ((ss.getD p61.toNat dSt15).c3)), (.bool ((ss.getD p61.toNat dSt15).c4))], kU64.row a36 c37 r38]) (by kernel_rfl) hs376 ?_
   refine zA (.pointer (some ⟨b80, 2, none⟩)) 0 hs376 ?_
   refine zA (.pointer (some ⟨b80, 2, none⟩)) 1 hs376 ?_
   refine zB 2 ⟨b80, 2, none⟩ (.string ((ss.getD p61.toNat dSt15).c2)) (fun _ hS_ => (hS_.cellAt 4 rfl rfl)) hs376 ?_
   refine zA (.pointer (some ⟨b80, 2, none⟩)) 4 hs376 ?_
   refine zA (.pointer (some ⟨b80, 2, none⟩)) 5 hs376 ?_
   refine zB 6 ⟨b80, 2, none⟩ (.string ((ss.getD p61.toNat dSt15).c2)) (fun _ hS_ => (hS_.cellAt 4 rfl rfl)) hs376 ?_
   refine any_step 3 (by kernel_rfl) (by kernel_rfl) ?_
   obtain ⟨r377, h378, hm⟩ := bind_some hm
   refine zC00 hs376 (emay_walk (tx_ := (ss.getD p61.toNat dSt15).c2) (hm := h378) B _) fun w379 hs381 => ?_
   refine ops_done (by kernel_rfl) ⟨hs381, ?_⟩
   refine any_step 7 (by kernel_rfl) (by kernel_rfl) ?_
   obtain ⟨r382, h383, hm⟩ := bind_some hm
   refine zC00 hs381 (rmay15_walk (tx_ := (ss.getD p61.toNat dSt15).c2) (hm := h383) B _) fun w384 hs386 => ?_
   refine ops_done (by kernel_rfl) ⟨hs386, ?_⟩
   refine zA (.bool (r377 == r382)) 8 hs386 ?_
   refine zA (.bool (r377 == r382)) 9 hs386 ?_
   rcases Bool.eq_false_or_eq_true (r377 == r382) with h387 | h387
   ·
    have h387p : ((r377 = true) ↔ (r382 = true)) := beq_yes Iff.rfl Iff.rfl h387
    replace hm := ite_yes hm h387p
    refine any_set 70 (v := .bool true) (eq_bool_of (by kernel_rfl) h387) ?_
    refine any_set 71 (v := .bool true) (eq_bool_of (by kernel_rfl) h387) ?_
    refine zA (.pointer (some ⟨b80, 2, none⟩)) 10 hs386 ?_
    refine zA (.pointer (some ⟨b80, 2, none⟩)) 11 hs386 ?_
    refine zB 12 ⟨b80, 2, none⟩ (.string ((ss.getD p61.toNat dSt15).c2)) (fun _ hS_ => (hS_.cellAt 4 rfl rfl)) hs386 ?_
    refine zA (.pointer (some ⟨b80, 2, none⟩)) 14 hs386 ?_
    refine zA (.pointer (some ⟨b80, 2, none⟩)) 15 hs386 ?_
    refine zB 16 ⟨b80, 2, none⟩ (.string ((ss.getD p61.toNat dSt15).c2)) (fun _ hS_ => (hS_.cellAt 4 rfl rfl)) hs386 ?_
    refine any_step 13 (by kernel_rfl) (by kernel_rfl) ?_
    obtain ⟨r388, h389, hm⟩ := bind_some hm
    refine zC00 hs386 (ebegin_walk (tx_ := (ss.getD p61.toNat dSt15).c2) (hm := h389) B _) fun w390 hs392 => ?_
    refine ops_done (by kernel_rfl) ⟨hs392, ?_⟩
    refine any_step 17 (by kernel_rfl) (by kernel_rfl) ?_
    obtain ⟨r393, h394, hm⟩ := bind_some hm
    refine zC00 hs392 (rbegin15_walk (tx_ := (ss.getD p61.toNat dSt15).c2) (hm := h394) B _) fun w395 hs397 => ?_
    refine ops_done (by kernel_rfl) ⟨hs397, ?_⟩
    refine zA (.bool (decide (r388 = r393))) 18 hs397 ?_
    refine zA (.bool (decide (r388 = r393))) 19 hs397 ?_
    refine zA (.bool (decide (r388 = r393))) 20 hs397 ?_
    refine any_done (by kernel_rfl) ?_
    exact ⟨(decide (r388 = r393)), slots_intro _ (by kernel_rfl), hs397, hm⟩
   have h387p : ¬ ((r377 = true) ↔ (r382 = true)) := beq_no Iff.rfl Iff.rfl h387
   replace hm := ite_no hm h387p
   refine any_set 70 (v := .bool false) (eq_bool_of (by kernel_rfl) h387) ?_
   refine any_set 71 (v := .bool false) (eq_bool_of (by kernel_rfl) h387) ?_
   refine any_skip 10 (by kernel_rfl) (by kernel_rfl) hs386 ?_
   refine any_skip 11 (by kernel_rfl) (by kernel_rfl) hs386 ?_
   refine any_skip 12 (by kernel_rfl) (by kernel_rfl) hs386 ?_
   refine any_skip 13 (by kernel_rfl) (by kernel_rfl) hs386 ?_
   refine any_skip 14 (by kernel_rfl) (by kernel_rfl) hs386 ?_
   refine any_skip 15 (by kernel_rfl) (by kernel_rfl) hs386 ?_
   refine any_skip 16 (by kernel_rfl) (by kernel_rfl) hs386 ?_
   refine any_skip 17 (by kernel_rfl) (by kernel_rfl) hs386 ?_
   refine any_skip 18 (by kernel_rfl) (by kernel_rfl) hs386 ?_
   refine zA (.bool false) 19 hs386 ?_
   refine zA (.bool false) 20 hs386 ?_
   refine any_done (by kernel_rfl) ?_
   exact ⟨false, slots_intro _ (by kernel_rfl), hs386, hm⟩
  refine W.sr fun K398 hK398 => ?_
  refine zR 1 ?_
  refine zL ⟨b80, 4, none⟩ (.bool ((ss.getD p61.toNat dSt15).c4)) (hs83.cellAt 0 rfl rfl) ?_
  refine zD (hK398 _ _ ?_)
  refine W.cond ((ss.getD p61.toNat dSt15).c4) (by kernel_rfl) (fun h399 => ?_) (fun h399 => ?_)
  ·
   have h399p : ((ss.getD p61.toNat dSt15).c4) = true := h399
   replace hm := ite_yes hm h399p
   refine W.sr fun K400 hK400 => ?_
   refine zR 1 ?_
   have hs401 := St.f3 hs83
   refine zC11 hs401 (drop_spec (p := (zp b44)) (img := r38) (l := l59) B _) fun w402 hs404 => ?_
   refine zD (hK400 _ _ ?_)
   have hs405 := St.f4 hs404
   obtain ⟨⟨_, ia406, ic407, la408, lc409, mn410⟩, ⟨ex411, hok412⟩, hs413⟩ := St.open hs405
   have hs414 : St B w [] w402 [zb b50 60 [(.slice ia406 r38.length ic407), (.slice la408 l60.length lc409), (.bool mn410)], kU64.row ia406 ic407 r38, kWr.row la408 lc409 l60, viewA (ptr b44) r38 ([]), zb b80 57 [(.int .u8 ((ss.getD p61.toNat dSt15).c0)), (zi ((ss.getD p61.toNat dSt15).c1)), (.string ((ss.getD p61.toNat dSt15).c2)), (zi ((ss.getD p61.toNat dSt15).c3)), (.bool ((ss.getD p61.toNat dSt15).c4))], zb b4 31 [(zi gw), (zi gi), (zi gb)], zb b31 42 [(zi gw), (zi gi), (zi gb)], kU64.row a36 c37 r38] := by cases ex411; exact hs413
   have := hok412.many
   refine W.region ?_
   refine zR 3 ?_
   refine zT 1 [(.slice none 0 0)] [(.slice ia406 r38.length ic407), (.slice none 0 0), (.bool mn410)] hs414 fun w415 hs417 => ?_
   refine zD ?_
   have hs418 := St.knil kWr hs417
   have hs419 := St.f8 hs418
   have hs420 := St.f8 hs419
   have hs421 := St.f8 hs420
   have hs422 := St.f8 hs421
   have hs423 := St.f8 hs422
   have hs424 := St.f8 hs423
   have hs425 := St.f6 hs424
   have hs426 := St.f8 hs425
   have hs427 := St.f8 hs426
   have hs428 : St B w [] w415 [refA (ptr b50) r38 ([]), kWr.row la408 lc409 l60, viewA (ptr b44) r38 ([]), zb b80 57 [(.int .u8 ((ss.getD p61.toNat dSt15).c0)), (zi ((ss.getD p61.toNat dSt15).c1)), (.string ((ss.getD p61.toNat dSt15).c2)), (zi ((ss.getD p61.toNat dSt15).c3)), (.bool ((ss.getD p61.toNat dSt15).c4))], zb b4 31 [(zi gw), (zi gi), (zi gb)], zb b31 42 [(zi gw), (zi gi), (zi gb)], kU64.row a36 c37 r38] := ref_close (l := []) (ia := ia406) (ic := ic407) (la := none) (lc := 0) (many := mn410) (VOk.nil hok412.size) hs427
   have hs429 := St.f6 hs428
   have hs430 := St.f4 hs429
   have hs431 := St.f2 hs430
   have hs432 := St.f4 hs431
   have hs433 := St.f6 hs432
   have hs434 := St.f6 hs433
   have hs435 := St.tk6 hs434
   exact ⟨([]), ([]), slots_intro _ (by kernel_rfl), hs435, hm⟩
  have h399p : ¬ (((ss.getD p61.toNat dSt15).c4) = true) := ne_true_of_eq_false h399
  replace hm := ite_no hm h399p
  refine W.skip ?_
  have hs436 := St.f5 hs83
  have hs437 := St.f1 hs436
  have hs438 := St.f5 hs437
  have hs439 := St.f5 hs438
  have hs440 := St.f5 hs439
  have hs441 := St.f5 hs440
  exact ⟨l59, l60, slots_intro _ (by kernel_rfl), hs441, hm⟩
 obtain ⟨h73p, hm⟩ := iN hm h73
 refine W.exit (exit_seq (exit_seq (exit_here ?_)))
 refine hK57 _ _ ?_
 refine W.sr fun K442 hK442 => ?_
 obtain ⟨r443, h444, hm⟩ := bind_some hm
 refine zC00 hs65 (works15_walk (hG := hG) (hT := (hs65.oldCells hT)) (hm := h444) B _) fun w445 hs447 => ?_
 refine zE 1 (hK442 _ _ ?_)
 refine W.ret ?_
 have hs448 := St.tk0 hs447
 refine ret_of (.bool r443) (by kernel_rfl) ⟨_, ⟨congrArg Value.bool (some_inj hm), rfl⟩, hs448⟩
end Go.Proofs.YtmmclabkkigiaaaGreatDoor

namespace Go.Proofs.YtmmclabkkigiaaaGreatDoor
open Go Go.RowKit
theorem entryplays_law {gw gi gb cut_ : Int} {ts : List TTn} {ss : List TSt15} (hc : 0 ≤ cut_ ∧ cut_ ≤ 65535) (ht : ∀ x ∈ ts, good_Tn x) : entryplays_M gw gi gb ts cut_ ss = some true := by
  refine Ok.true ?_
  unfold entryplays_M
  refine Ok.ite (fun _ => works15_stop) fun h60 => ?_
  refine Ok.bind (great15_few ss) fun b hb => ?_
  refine Ok.ite (fun _ => works15_stop) fun hb2 => ?_
  have h40 : ss.length ≤ 40 := hb (by cases b with | true => exact absurd rfl hb2 | false => rfl)
  refine Ok.bind (image_u64 (gw := gw) (gi := gi) (gb := gb) hc ht (by omega)) fun ws hws => ?_
  have hl : ws.length ≤ 6232 := hws.1
  have hnil : VI ws [] := VI.nil hws.2.1
  refine Ok.need (by omega) (Ok.need (by omega) ?_)
  refine Ok.iter (fun s : List (Int × Int) × List (Int × Int) × Int => s.1 = s.2.1 ∧ VI ws s.1 ∧ 0 ≤ s.2.2 ∧ s.2.2 ≤ (ss.length : Int)) (fun s => ((ss.length : Int) - s.2.2).toNat) ?_ _ _ ⟨rfl, hnil, by simp, by simp⟩ (fuel_lt (by simp only; omega))
  rintro k ⟨l, l', p⟩ ⟨h1, h2, h3, h4⟩ ih
  simp only at h1 h2 h3 h4 ih
  subst h1
  show Ok _ (entryplays_B0 gw gi gb ss ws k l l p)
  unfold entryplays_B0
  refine Ok.ite (fun hp => Ok.need (by omega) ?_) (fun _ => works15_stop)
  have J4 : ∀ m, VI ws m → Ok (· = true) (entryplays_J4 k p m m true) := by
    intro m hm
    unfold entryplays_J4
    have := hm.2
    exact Ok.yes rfl (Ok.need (by omega) (Ok.yes rfl (Ok.need (by omega) (ih _ ⟨rfl, hm, by simp only; omega, by simp only; omega⟩ (by simp only; omega)))))
  have J2 : ∀ m, VI ws m → Ok (· = true) (entryplays_J2 gw gi gb ss ws k p m m) := by
    intro m hm
    unfold entryplays_J2
    obtain ⟨b, hb, he⟩ := ebegin_range ((ss.getD p.toNat dSt15).c2)
    refine Ok.got15 (emay_eq _) (Ok.got15 (rmay15_eq _) (Ok.yes Iff.rfl (Ok.got15 he (Ok.got15 ((rbegin15_eq _).trans he) ?_))))
    rw [decide_eq_true rfl]
    unfold entryplays_J3
    refine Ok.ite (fun _ => ?_) fun _ => Ok.ite (fun _ => ?_) fun _ => Ok.ite (fun _ => ?_) fun _ => Ok.ite (fun _ => ?_) fun _ => ?_
    · obtain ⟨x, e1, e2, _⟩ := find_eq (gw := gw) (gi := gi) (gb := gb) (n := (ss.getD p.toNat dSt15).c1) hm hl (ss.getD p.toNat dSt15).c2
      refine Ok.got15 e1 (Ok.got15 e2 (Ok.yes rfl (Ok.yes ⟨rfl, rfl⟩ (Ok.yes rfl ?_))))
      rw [decide_eq_true rfl]
      exact J4 m hm
    · obtain ⟨x, e1, e2, e3⟩ := add_eq (gw := gw) (gi := gi) (gb := gb) (n := (ss.getD p.toNat dSt15).c1) hm hl (ss.getD p.toNat dSt15).c2 (ss.getD p.toNat dSt15).c3
      refine Ok.yes rfl (Ok.got15 e1 (Ok.got15 e2 ?_))
      rw [decide_eq_true rfl]
      exact J4 _ e3
    · obtain ⟨x, e1, e2, e3⟩ := change_eq (gw := gw) (gi := gi) (gb := gb) (n := (ss.getD p.toNat dSt15).c1) hm hl (ss.getD p.toNat dSt15).c2 (ss.getD p.toNat dSt15).c3
      refine Ok.yes rfl (Ok.got15 e1 (Ok.got15 e2 ?_))
      rw [decide_eq_true rfl]
      exact J4 _ e3
    · obtain ⟨x, e1, e2, e3⟩ := remove_eq (gw := gw) (gi := gi) (gb := gb) (n := (ss.getD p.toNat dSt15).c1) hm hl (ss.getD p.toNat dSt15).c2
      refine Ok.yes rfl (Ok.got15 e1 (Ok.got15 e2 ?_))
      rw [decide_eq_true rfl]
      exact J4 _ e3
    · obtain ⟨x, y, e1, e2, e3, e4, e5⟩ := list_eq (gw := gw) (gi := gi) (gb := gb) (n := (ss.getD p.toNat dSt15).c1) hm hl
      refine Ok.got15 e1 (Ok.got15 e2 (Ok.yes rfl (Ok.got15 (same15_eq e3 (by omega)) (Ok.yes rfl ?_))))
      rw [decide_eq_true e4]
      exact J4 m hm
  exact Ok.ite (fun _ => J2 [] hnil) fun _ => J2 l h2
end Go.Proofs.YtmmclabkkigiaaaGreatDoor

namespace Go.Proofs.YtmmclabkkigiaaaGreatDoor
open Go Go.RowKit
structure TGeo where
  c0 : Int
  c1 : Int
  c2 : Int
def kGeo : Kind TGeo := ⟨31, 3, fun x => [.int .i64 x.c0, .int .i64 x.c1, .int .i64 x.c2], by decide, fun _ => rfl, fun _ => rfl⟩
def good_Geo (x : TGeo) : Prop := (-9223372036854775808 ≤ x.c0 ∧ x.c0 ≤ 9223372036854775807) ∧ (-9223372036854775808 ≤ x.c1 ∧ x.c1 ≤ 9223372036854775807) ∧ (-9223372036854775808 ≤ x.c2 ∧ x.c2 ≤ 9223372036854775807)
end Go.Proofs.YtmmclabkkigiaaaGreatDoor

namespace Go.Proofs.YtmmclabkkigiaaaGreatDoor
open Go.ChangeShapes Go.WideShapes Go.ChangeAt Go.RowKit Go.Deep
inductive Leaf where
  | int (k : IntKind)
  | bool
def LeafOk : Leaf → Value → Prop
  | .int k, v => ∃ z, v = .int k z ∧ (Lit.int k z).wf = true
  | .bool, v => ∃ b, v = .bool b
def LeavesOk : List Leaf → List Value → Prop
  | [], [] => True
  | k :: ks, v :: vs => LeafOk k v ∧ LeavesOk ks vs
  | _, _ => False
theorem LeavesOk.append : ∀ {ks ks' : List Leaf} {vs vs' : List Value}, LeavesOk ks vs → LeavesOk ks' vs' → LeavesOk (ks ++ ks') (vs ++ vs')
  | [], _, [], _, _, h => h
  | _ :: _, _, _ :: _, _, h, h' => ⟨h.1, LeavesOk.append h.2 h'⟩
def leavesF (P : Program) (lv : TypeId → Option (List Leaf)) : Nat → List Field → Option (List Leaf)
  | _, [] => some []
  | off, f :: fs => match lv f.type with
    | some l => if f.offset = off ∧ P.cellsOf f.type = l.length then (leavesF P lv (off + l.length) fs).map (l ++ ·) else none
    | none => none
def leaves (P : Program) : Nat → TypeId → Option (List Leaf)
  | 0, _ => none
  | m + 1, t => match P.underlying t with
    | some (.int k) => some [.int k]
    | some .bool => some [.bool]
    | some (.struct fs) => match leavesF P (leaves P m) 0 fs.toList with
      | some ks => if P.cellsOf t = ks.length then some ks else none
      | none => none
    | some (.array n e) => match leaves P m e with
      | some l => if P.cellsOf e = l.length ∧ P.cellsOf t = n * l.length then some ((List.replicate n l).flatten) else none
      | none => none
    | _ => none
section
variable {H : Type} {enc : TypeId × Value → H} {P : Program} {w : World} {base : Nat} {sp : Nat → Bool} {held : Bool}
theorem leavesF_ok {lv : TypeId → Option (List Leaf)} (hlv : ∀ (t : TypeId) (ks : List Leaf) (n : Nat) (cs : List Value) (y : DataW H × List MemPlace), lv t = some ks → DataW.trod enc P w base sp held n t cs = some y → LeavesOk ks cs) {cs : List Value} :
    ∀ (fs : List Field) (off : Nat) (ks : List Leaf), leavesF P lv off fs = some ks → (∀ (i : Nat) (f : Field), fs[i]? = some f → ∃ n y, DataW.trod enc P w base sp held n f.type ((cs.drop f.offset).take (P.cellsOf f.type)) = some y) →
      LeavesOk ks ((cs.drop off).take ks.length)
  | [], off, ks, h, _ => by
    simp only [leavesF, Option.some.injEq] at h
    subst h
    simp [LeavesOk]
  | f :: fs, off, ks, h, ht => by
    unfold leavesF at h
    split at h
    · rename_i l hl
      split at h
      · rename_i hc
        simp only [Option.map_eq_some_iff] at h
        obtain ⟨ks', hk', rfl⟩ := h
        obtain ⟨n, y, hy⟩ := ht 0 f rfl
        rw [hc.1, hc.2] at hy
        have h1 := hlv _ _ _ _ _ hl hy
        have h2 := leavesF_ok hlv fs (off + l.length) ks' hk' (fun i g hg => ht (i + 1) g (by simpa using hg))
        have e : (cs.drop off).take (l ++ ks').length = (cs.drop off).take l.length ++ (cs.drop (off + l.length)).take ks'.length := by
          rw [List.length_append, List.take_add, List.drop_drop]
        rw [e]
        exact h1.append h2
      · cases h
    · cases h
theorem leavesA_ok {l : List Leaf} {cs : List Value} : ∀ n : Nat, (∀ i, i < n → LeavesOk l ((cs.drop (i * l.length)).take l.length)) → LeavesOk ((List.replicate n l).flatten) (cs.take (n * l.length))
  | 0, _ => by simp [LeavesOk]
  | n + 1, h => by
    have h1 := leavesA_ok n (fun i hi => h i (by omega))
    have h2 := h n (by omega)
    have e1 : (List.replicate (n + 1) l).flatten = (List.replicate n l).flatten ++ l := by
      rw [List.replicate_succ', List.flatten_append]
      simp
    have e2 : cs.take ((n + 1) * l.length) = cs.take (n * l.length) ++ (cs.drop (n * l.length)).take l.length := by
      rw [Nat.add_mul, Nat.one_mul, List.take_add]
    rw [e1, e2]
    exact h1.append h2
theorem leaves_ok : ∀ (m : Nat) (t : TypeId) (ks : List Leaf) (n : Nat) (cs : List Value) (y : DataW H × List MemPlace), leaves P m t = some ks → DataW.trod enc P w base sp held n t cs = some y → LeavesOk ks cs
  | 0, t, ks, n, cs, y, h, _ => by simp [leaves] at h
  | m + 1, t, ks, n, cs, y, h, hy => by
    unfold leaves at h
    split at h
    · rename_i k hu
      cases h
      obtain ⟨z, rfl, _, hz⟩ := DataW.trod_int hu hy
      exact ⟨⟨z, rfl, hz⟩, trivial⟩
    · rename_i hu
      cases h
      cases n with
      | zero => simp [DataW.trod] at hy
      | succ n =>
        unfold DataW.trod at hy
        rw [hu] at hy
        split at hy <;> simp_all [LeavesOk, LeafOk]
    · rename_i fs hu
      split at h
      · rename_i ks' hks
        split at h
        · rename_i hc
          cases h
          obtain ⟨xs, n', rfl, _, hlen, hxl, hf⟩ := DataW.trod_struct hu hy
          have h1 := leavesF_ok (cs := cs) (leaves_ok m) fs.toList 0 _ hks (fun i f hi => by
            have hi' : fs[i]? = some f := by simpa using hi
            have := hf i f hi'
            have hil : i < xs.length := by rw [hxl]; exact (Array.getElem?_eq_some_iff.1 hi').1
            rw [List.getElem?_eq_getElem hil] at this
            exact ⟨_, _, this⟩)
          simpa [← hc, ← hlen] using h1
        · cases h
      · cases h
    · rename_i k e hu
      split at h
      · rename_i l hl
        split at h
        · rename_i hc
          cases h
          obtain ⟨xs, n', rfl, _, hlen, hxl, hf⟩ := DataW.trod_array hu hy
          have h1 := leavesA_ok (l := l) (cs := cs) k (fun i hi => by
            have := hf i hi
            have hil : i < xs.length := by rw [hxl]; exact hi
            rw [List.getElem?_eq_getElem hil, hc.1] at this
            exact leaves_ok m _ _ _ _ _ hl this)
          simpa [← hc.2, ← hlen] using h1
        · cases h
      · cases h
    · cases h
theorem open_agg {α : Type} (K : Kind α) (good : α → Prop) {fs : Array Field} {ks : List Leaf} (m : Nat) (hs : P.underlying K.e = some (.struct fs)) (hl : leaves P m K.e = some ks) (hread : ∀ cs, LeavesOk ks cs → ∃ x, cs = K.elem x ∧ good x)
    {r : Reach} {b0 : Nat} {v : Value} {d : DataW H} {ps : List MemPlace} (hval : Value.okWide P w r b0 K.e v) (h : DataW.Trod enc P w base sp held K.e v d ps) : ∃ x, v = .agg (K.elem x).toArray ∧ good x := by
  obtain ⟨cs, rfl, _⟩ := okWide_struct hs hval
  obtain ⟨fuel, h⟩ := h
  have h' : DataW.trod enc P w base sp held fuel K.e cs.toList = some (d, ps) := h
  obtain ⟨x, hx, hg⟩ := hread _ (leaves_ok m _ _ _ _ _ hl h')
  exact ⟨x, by rw [← hx], hg⟩
end
theorem leaves_cons {k : Leaf} {ks : List Leaf} : ∀ {cs : List Value}, LeavesOk (k :: ks) cs → ∃ v vs, cs = v :: vs ∧ LeafOk k v ∧ LeavesOk ks vs
  | v :: vs, h => ⟨v, vs, rfl, h.1, h.2⟩
  | [], h => h.elim
theorem leaves_nil : ∀ {cs : List Value}, LeavesOk [] cs → cs = []
  | [], _ => rfl
  | _ :: _, h => h.elim
end Go.Proofs.YtmmclabkkigiaaaGreatDoor

namespace Go.Proofs.YtmmclabkkigiaaaGreatDoor
namespace WithText
open Go.ChangeShapes Go.WideShapes Go.ChangeAt Go.RowKit Go.Deep
inductive Leaf where
  | int (k : IntKind)
  | bool
  | string
def LeafOk : Leaf → Value → Prop
  | .int k, v => ∃ z, v = .int k z ∧ (Lit.int k z).wf = true
  | .bool, v => ∃ b, v = .bool b
  | .string, v => ∃ b, v = .string b ∧ b.size ≤ maxLen
def LeavesOk : List Leaf → List Value → Prop
  | [], [] => True
  | k :: ks, v :: vs => LeafOk k v ∧ LeavesOk ks vs
  | _, _ => False
theorem LeavesOk.append : ∀ {ks ks' : List Leaf} {vs vs' : List Value}, LeavesOk ks vs → LeavesOk ks' vs' → LeavesOk (ks ++ ks') (vs ++ vs')
  | [], _, [], _, _, h => h
  | _ :: _, _, _ :: _, _, h, h' => ⟨h.1, LeavesOk.append h.2 h'⟩
def leavesF (P : Program) (lv : TypeId → Option (List Leaf)) : Nat → List Field → Option (List Leaf)
  | _, [] => some []
  | off, f :: fs => match lv f.type with
    | some l => if f.offset = off ∧ P.cellsOf f.type = l.length then (leavesF P lv (off + l.length) fs).map (l ++ ·) else none
    | none => none
def leaves (P : Program) : Nat → TypeId → Option (List Leaf)
  | 0, _ => none
  | m + 1, t => match P.underlying t with
    | some (.int k) => some [.int k]
    | some .bool => some [.bool]
    | some .string => some [.string]
    | some (.struct fs) => match leavesF P (leaves P m) 0 fs.toList with
      | some ks => if P.cellsOf t = ks.length then some ks else none
      | none => none
    | some (.array n e) => match leaves P m e with
      | some l => if P.cellsOf e = l.length ∧ P.cellsOf t = n * l.length then some ((List.replicate n l).flatten) else none
      | none => none
    | _ => none
section
variable {H : Type} {enc : TypeId × Value → H} {P : Program} {w : World} {base : Nat} {sp : Nat → Bool} {held : Bool}
theorem leavesF_ok {lv : TypeId → Option (List Leaf)} (hlv : ∀ (t : TypeId) (ks : List Leaf) (n : Nat) (cs : List Value) (y : DataW H × List MemPlace), lv t = some ks → DataW.trod enc P w base sp held n t cs = some y → LeavesOk ks cs) {cs : List Value} :
    ∀ (fs : List Field) (off : Nat) (ks : List Leaf), leavesF P lv off fs = some ks → (∀ (i : Nat) (f : Field), fs[i]? = some f → ∃ n y, DataW.trod enc P w base sp held n f.type ((cs.drop f.offset).take (P.cellsOf f.type)) = some y) →
      LeavesOk ks ((cs.drop off).take ks.length)
  | [], off, ks, h, _ => by
    simp only [leavesF, Option.some.injEq] at h
    subst h
    simp [LeavesOk]
  | f :: fs, off, ks, h, ht => by
    unfold leavesF at h
    split at h
    · rename_i l hl
      split at h
      · rename_i hc
        simp only [Option.map_eq_some_iff] at h
        obtain ⟨ks', hk', rfl⟩ := h
        obtain ⟨n, y, hy⟩ := ht 0 f rfl
        rw [hc.1, hc.2] at hy
        have h1 := hlv _ _ _ _ _ hl hy
        have h2 := leavesF_ok hlv fs (off + l.length) ks' hk' (fun i g hg => ht (i + 1) g (by simpa using hg))
        have e : (cs.drop off).take (l ++ ks').length = (cs.drop off).take l.length ++ (cs.drop (off + l.length)).take ks'.length := by
          rw [List.length_append, List.take_add, List.drop_drop]
        rw [e]
        exact h1.append h2
      · cases h
    · cases h
theorem leavesA_ok {l : List Leaf} {cs : List Value} : ∀ n : Nat, (∀ i, i < n → LeavesOk l ((cs.drop (i * l.length)).take l.length)) → LeavesOk ((List.replicate n l).flatten) (cs.take (n * l.length))
  | 0, _ => by simp [LeavesOk]
  | n + 1, h => by
    have h1 := leavesA_ok n (fun i hi => h i (by omega))
    have h2 := h n (by omega)
    have e1 : (List.replicate (n + 1) l).flatten = (List.replicate n l).flatten ++ l := by
      rw [List.replicate_succ', List.flatten_append]
      simp
    have e2 : cs.take ((n + 1) * l.length) = cs.take (n * l.length) ++ (cs.drop (n * l.length)).take l.length := by
      rw [Nat.add_mul, Nat.one_mul, List.take_add]
    rw [e1, e2]
    exact h1.append h2
theorem leaves_ok : ∀ (m : Nat) (t : TypeId) (ks : List Leaf) (n : Nat) (cs : List Value) (y : DataW H × List MemPlace), leaves P m t = some ks → DataW.trod enc P w base sp held n t cs = some y → LeavesOk ks cs
  | 0, t, ks, n, cs, y, h, _ => by simp [leaves] at h
  | m + 1, t, ks, n, cs, y, h, hy => by
    unfold leaves at h
    split at h
    · rename_i k hu
      cases h
      obtain ⟨z, rfl, _, hz⟩ := DataW.trod_int hu hy
      exact ⟨⟨z, rfl, hz⟩, trivial⟩
    · rename_i hu
      cases h
      cases n with
      | zero => simp [DataW.trod] at hy
      | succ n =>
        unfold DataW.trod at hy
        rw [hu] at hy
        split at hy <;> simp_all [LeavesOk, LeafOk]
    · rename_i hu
      cases h
      obtain ⟨b, rfl, _, hz⟩ := DataW.trod_string hu hy
      exact ⟨⟨b, rfl, hz⟩, trivial⟩
    · rename_i fs hu
      split at h
      · rename_i ks' hks
        split at h
        · rename_i hc
          cases h
          obtain ⟨xs, n', rfl, _, hlen, hxl, hf⟩ := DataW.trod_struct hu hy
          have h1 := leavesF_ok (cs := cs) (leaves_ok m) fs.toList 0 _ hks (fun i f hi => by
            have hi' : fs[i]? = some f := by simpa using hi
            have := hf i f hi'
            have hil : i < xs.length := by rw [hxl]; exact (Array.getElem?_eq_some_iff.1 hi').1
            rw [List.getElem?_eq_getElem hil] at this
            exact ⟨_, _, this⟩)
          simpa [← hc, ← hlen] using h1
        · cases h
      · cases h
    · rename_i k e hu
      split at h
      · rename_i l hl
        split at h
        · rename_i hc
          cases h
          obtain ⟨xs, n', rfl, _, hlen, hxl, hf⟩ := DataW.trod_array hu hy
          have h1 := leavesA_ok (l := l) (cs := cs) k (fun i hi => by
            have := hf i hi
            have hil : i < xs.length := by rw [hxl]; exact hi
            rw [List.getElem?_eq_getElem hil, hc.1] at this
            exact leaves_ok m _ _ _ _ _ hl this)
          simpa [← hc.2, ← hlen] using h1
        · cases h
      · cases h
    · cases h
theorem open_agg {α : Type} (K : Kind α) (good : α → Prop) {fs : Array Field} {ks : List Leaf} (m : Nat) (hs : P.underlying K.e = some (.struct fs)) (hl : leaves P m K.e = some ks) (hread : ∀ cs, LeavesOk ks cs → ∃ x, cs = K.elem x ∧ good x)
    {r : Reach} {b0 : Nat} {v : Value} {d : DataW H} {ps : List MemPlace} (hval : Value.okWide P w r b0 K.e v) (h : DataW.Trod enc P w base sp held K.e v d ps) : ∃ x, v = .agg (K.elem x).toArray ∧ good x := by
  obtain ⟨cs, rfl, _⟩ := okWide_struct hs hval
  obtain ⟨fuel, h⟩ := h
  have h' : DataW.trod enc P w base sp held fuel K.e cs.toList = some (d, ps) := h
  obtain ⟨x, hx, hg⟩ := hread _ (leaves_ok m _ _ _ _ _ hl h')
  exact ⟨x, by rw [← hx], hg⟩
end
theorem leaves_cons {k : Leaf} {ks : List Leaf} : ∀ {cs : List Value}, LeavesOk (k :: ks) cs → ∃ v vs, cs = v :: vs ∧ LeafOk k v ∧ LeavesOk ks vs
  | v :: vs, h => ⟨v, vs, rfl, h.1, h.2⟩
  | [], h => h.elim
theorem leaves_nil : ∀ {cs : List Value}, LeavesOk [] cs → cs = []
  | [], _ => rfl
  | _ :: _, h => h.elim
end WithText
end Go.Proofs.YtmmclabkkigiaaaGreatDoor

namespace Go.Proofs.YtmmclabkkigiaaaGreatDoor
open Go.ChangeShapes Go.WideShapes Go.ChangeAt Go.RowKit Go.Deep
theorem leaf_St15 (cs0 : List Value) (e0 : WithText.LeavesOk [.int .u8, .int .i64, .string, .int .i64, .bool] cs0) : ∃ x, cs0 = kSt15.elem x ∧ good_St15 x := by
  obtain ⟨_, cs1, rfl, ⟨z0, rfl, b0⟩, e1⟩ := WithText.leaves_cons e0
  obtain ⟨_, cs2, rfl, ⟨z1, rfl, b1⟩, e2⟩ := WithText.leaves_cons e1
  obtain ⟨_, cs3, rfl, ⟨z2, rfl, _⟩, e3⟩ := WithText.leaves_cons e2
  obtain ⟨_, cs4, rfl, ⟨z3, rfl, b3⟩, e4⟩ := WithText.leaves_cons e3
  obtain ⟨_, cs5, rfl, ⟨z4, rfl⟩, e5⟩ := WithText.leaves_cons e4
  obtain rfl := WithText.leaves_nil e5
  simp [Lit.wf, IntKind.min, IntKind.max, IntKind.signed, IntKind.bits] at b0 b1 b3
  refine ⟨⟨z0, z1, z2, z3, z4⟩, rfl, ?_⟩
  simp only [good_St15]
  omega
theorem read_St15 {H : Type} {enc : TypeId × Value → H} {w : World} {base : Nat} {sp : Nat → Bool} (n : Nat) (cs : List Value) (y : DataW H × List MemPlace) (_ : cs.length = kSt15.size) (h : DataW.trod enc Tryz.prog w base sp true n kSt15.e cs = some y) :
    ∃ x, cs = kSt15.elem x ∧ good_St15 x := leaf_St15 cs (WithText.leaves_ok (P := Tryz.prog) 6 kSt15.e [.int .u8, .int .i64, .string, .int .i64, .bool] _ _ _ (by kernel_rfl) h)
theorem leaf_Geo (cs0 : List Value) (e0 : LeavesOk [.int .i64, .int .i64, .int .i64] cs0) : ∃ x, cs0 = kGeo.elem x ∧ good_Geo x := by
  obtain ⟨_, cs1, rfl, ⟨z0, rfl, b0⟩, e1⟩ := leaves_cons e0
  obtain ⟨_, cs2, rfl, ⟨z1, rfl, b1⟩, e2⟩ := leaves_cons e1
  obtain ⟨_, cs3, rfl, ⟨z2, rfl, b2⟩, e3⟩ := leaves_cons e2
  obtain rfl := leaves_nil e3
  simp [Lit.wf, IntKind.min, IntKind.max, IntKind.signed, IntKind.bits] at b0 b1 b2
  refine ⟨⟨z0, z1, z2⟩, rfl, ?_⟩
  simp only [good_Geo]
  omega
theorem leaf_Tn (cs0 : List Value) (e0 : LeavesOk [.int .u16, .int .u64] cs0) : ∃ x, cs0 = kTn.elem x ∧ good_Tn x := by
  obtain ⟨_, cs1, rfl, ⟨z0, rfl, b0⟩, e1⟩ := leaves_cons e0
  obtain ⟨_, cs2, rfl, ⟨z1, rfl, b1⟩, e2⟩ := leaves_cons e1
  obtain rfl := leaves_nil e2
  simp [Lit.wf, IntKind.min, IntKind.max, IntKind.signed, IntKind.bits] at b0 b1
  refine ⟨⟨z0, z1⟩, rfl, ?_⟩
  simp only [good_Tn]
  omega
theorem read_Tn {H : Type} {enc : TypeId × Value → H} {w : World} {base : Nat} {sp : Nat → Bool} (n : Nat) (cs : List Value) (y : DataW H × List MemPlace) (_ : cs.length = kTn.size) (h : DataW.trod enc Tryz.prog w base sp true n kTn.e cs = some y) :
    ∃ x, cs = kTn.elem x ∧ good_Tn x := leaf_Tn cs (leaves_ok (P := Tryz.prog) 6 kTn.e [.int .u16, .int .u64] _ _ _ (by kernel_rfl) h)
end Go.Proofs.YtmmclabkkigiaaaGreatDoor

namespace Go.Proofs.YtmmclabkkigiaaaGreatDoor
open Go
set_option maxRecDepth 100000 in
theorem seat_make : (Tryz.prog.make == some Rows.entryNamesRow.make) = true := by kernel_rfl
end Go.Proofs.YtmmclabkkigiaaaGreatDoor

namespace Go.Proofs.YtmmclabkkigiaaaGreatDoor
open Go
set_option maxRecDepth 100000 in
theorem seat_lifted : (Rows.entryNamesRow.lifted == Tryz.prog.liftsFinal) = true := by kernel_rfl
end Go.Proofs.YtmmclabkkigiaaaGreatDoor

namespace Go.Proofs.YtmmclabkkigiaaaGreatDoor
open Go
set_option maxRecDepth 100000 in
theorem seat_enter : Tryz.prog.mayEnter = true := by kernel_rfl
end Go.Proofs.YtmmclabkkigiaaaGreatDoor

namespace Go.Proofs.YtmmclabkkigiaaaGreatDoor
open Go Go.RowKit
set_option maxRecDepth 100000 in
theorem seat_main : Tryz.prog.mainIs = some (true, "056a9ebd9aeee0e6afff036bdceb98945e1f9728f64ef0347502c2b89040cba7".toList) := by kernel_rfl
end Go.Proofs.YtmmclabkkigiaaaGreatDoor

namespace Go.Proofs.YtmmclabkkigiaaaGreatDoor
open Go Go.RowKit
set_option maxRecDepth 100000 in
theorem seat_looks : false = Tryz.prog.looks [] := by kernel_rfl
end Go.Proofs.YtmmclabkkigiaaaGreatDoor
