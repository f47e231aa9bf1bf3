/- Texts, one behind the other: PCa, PCb, PCe, PSa, Po, Pop, Pb, A0s, PSb, AI10, PI10, PSc, PSd. -/
import Derived.Test.YthimamnblklkbaaDoorQSN3
set_option linter.unusedVariables false
set_option linter.unusedSimpArgs false
namespace Go.Proofs.YthimamnblklkbaaDoor
open Go Go.RowKit
set_option linter.unusedVariables false
set_option linter.unusedSimpArgs false

variable {img : List Int} {l : List (Int × Int)}
def VJ (img : List Int) (l : List (Int × Int)) : Prop := VR img l ∧ VOk img l
theorem VJ.vput {a x : Int} (h : VJ img l) (hx : U64 x) : VJ img (vput img l a x).2 := by
  unfold Go.Proofs.YthimamnblklkbaaDoor.vput
  split
  · rename_i ha
    cases hl : vlook l a with
    | some y => exact ⟨h.1.put ha hx, h.2.put ha (.inl (by rw [hl]; rfl))⟩
    | none =>
      simp only
      split
      · exact h
      · exact ⟨h.1.put ha hx, h.2.put ha (.inr (by omega))⟩
  · exact h
theorem VJ.vwrite {a x : Int} (h : VJ img l) (hx : U64 x) : VJ img (vwrite img l a x).2 := by
  unfold Go.Proofs.YthimamnblklkbaaDoor.vwrite
  split
  · exact h
  · split
    · exact h
    · exact h.vput hx
theorem VJ.vsets : ∀ {xs : List (Int × Int)} {l : List (Int × Int)}, VJ img l → (∀ p ∈ xs, U64 p.2) → VJ img (vsets img l xs).2
  | [], _, h, _ => h
  | x :: xs, l, h, hx => by
    unfold Go.Proofs.YthimamnblklkbaaDoor.vsets
    split
    · exact VJ.vsets (h.vwrite (hx x (by simp))) fun p hp => hx p (by simp [hp])
    · exact h.vwrite (hx x (by simp))

def thereF (img : List Int) (i k : Int) : Int := if i < 0 then 1 else if i ≥ 4 then 1 else if k < 0 then 1 else if k ≥ 4 then 1 else if (img.length : Int) < sessAt i + 64 then 8 else 0
theorem rthere_eq (img : List Int) (i k : Int) : rthere_M img i k = some (thereF img i k) := by
  unfold rthere_M thereF
  have h := sess_range i
  repeat' split
  all_goals first | rfl | skip
  all_goals rw [need, if_pos (by omega)]
  all_goals first | rfl | (simp only [*, if_true, if_false])
theorem thereF_zero {i k : Int} (h : thereF img i k = 0) : 0 ≤ i ∧ i < 4 ∧ 0 ≤ k ∧ k < 4 ∧ sessAt i = 8 + 64 * i ∧ 72 + 64 * i ≤ (img.length : Int) ∧ slotAt i k = 16 + 64 * i + 12 * k := by
  unfold thereF at h
  have hs := sess_range i
  split at h; · omega
  split at h; · omega
  split at h; · omega
  split at h; · omega
  split at h; · omega
  refine ⟨by omega, by omega, by omega, by omega, by omega, by omega, ?_⟩
  unfold slotAt; rw [if_pos (by omega)]
theorem ssess_eq (img : List Int) (i : Int) : ssess_M img i = some (if thereF img i 0 = 0 then sessAt i else 0, thereF img i 0) := by
  unfold ssess_M thereF
  have h := sess_range i
  by_cases h1 : i < 0
  · rw [if_pos (by omega), if_pos h1, if_neg (by decide)]
  · by_cases h2 : i ≥ 4
    · rw [if_pos (by omega), if_neg h1, if_pos h2, if_neg (by decide)]
    · have e : (if (0 : Int) < 0 then (1 : Int) else if (0 : Int) ≥ 4 then 1 else if (img.length : Int) < sessAt i + 64 then 8 else 0) = if (img.length : Int) < sessAt i + 64 then 8 else 0 := by simp
      rw [if_neg (by omega), need, if_pos (by omega), if_neg h1, if_neg h2, e]
      split <;> simp
theorem sfind_eq (img : List Int) (i k : Int) : ∃ a, sfind_M img i k = some (a, thereF img i k) ∧ (thereF img i k = 0 → a = slotAt i k) := by
  unfold sfind_M
  rw [ssess_eq]
  by_cases h : slotAt i k < 0
  · refine ⟨0, ?_, ?_⟩
    · rw [if_pos h]
      have : thereF img i k = 1 := by
        unfold slotAt at h
        unfold thereF
        split at h
        · omega
        · rename_i hn
          repeat' split
          all_goals first | rfl | skip
          all_goals exact absurd ⟨⟨by omega, by omega⟩, by omega, by omega⟩ hn
      rw [this]
    · intro h0
      have := thereF_zero h0
      omega
  · refine ⟨slotAt i k, ?_, fun _ => rfl⟩
    rw [if_neg h]
    unfold slotAt at h
    split at h
    · rename_i hn
      simp only [Option.bind]
      have e : thereF img i k = thereF img i 0 := by
        unfold thereF
        simp only [show ¬ i < 0 by omega, show ¬ i ≥ 4 by omega, show ¬ k < 0 by omega, show ¬ k ≥ 4 by omega, if_false]
        simp
      rw [e]
    · omega

def getF (img : List Int) (l : List (Int × Int)) (i : Int) : Bool × Int × Int × Int :=
  if thereF img i 0 = 0 then (if vget img l (sessAt i) > 1 then (false, 0, 0, 4) else (decide (vget img l (sessAt i) = 1), vget img l (sessAt i + 1), vget img l (sessAt i + 2), 0)) else (false, 0, 0, thereF img i 0)
theorem sget_eq (img : List Int) (l : List (Int × Int)) (i : Int) : sget_M img l i = some (getF img l i) := by
  unfold sget_M getF
  rw [ssess_eq]
  simp only [Option.bind]
  by_cases h : thereF img i 0 = 0
  · have := thereF_zero h
    rw [if_pos h, if_pos h, if_pos h]
    by_cases h2 : vget img l (sessAt i) > 1
    · rw [if_pos h2, if_pos h2]
    · rw [if_neg h2, if_neg h2, need, if_pos (by omega), need, if_pos (by omega)]
  · rw [if_neg h, if_neg h]
theorem rget10_eq (img : List Int) (l : List (Int × Int)) (i : Int) : rget10_M img l i = some (getF img l i) := by
  unfold rget10_M getF
  rw [rthere_eq]
  simp only [Option.bind]
  by_cases h : thereF img i 0 = 0
  · have := thereF_zero h
    rw [if_pos h, if_pos h]
    by_cases h2 : vget img l (sessAt i) > 1
    · rw [if_pos h2, if_pos h2]
    · rw [if_neg h2, if_neg h2, need, if_pos (by omega), need, if_pos (by omega)]
  · rw [if_neg h, if_neg h]

def putF (img : List Int) (l : List (Int × Int)) (i : Int) (o : Bool) (g k : Int) : Int × List (Int × Int) :=
  if thereF img i 0 = 0 then vsets img l [(sessAt i, if o = true then 1 else 0), (sessAt i + 1, g), (sessAt i + 2, k)] else (thereF img i 0, l)
theorem sput_eq (img : List Int) (l : List (Int × Int)) (i : Int) (o : Bool) (g k : Int) : sput_M img l i o g k = some (putF img l i o g k) := by
  unfold sput_M putF sput_J1
  rw [ssess_eq]
  simp only [Option.bind]
  by_cases h : thereF img i 0 = 0
  · have := thereF_zero h
    rw [if_pos h, if_pos h, if_pos h]
    cases o
    · simp only [Bool.false_eq_true, if_false]
      rw [need, if_pos (by omega), need, if_pos (by omega)]
    · simp only [if_true]
      rw [need, if_pos (by omega), need, if_pos (by omega)]
  · rw [if_neg h, if_neg h]
theorem vwrites_vsets (img : List Int) (at_ : Int) : ∀ (ws : List Int) (l : List (Int × Int)) (i : Int), vwrites img at_ l i ws = vsets img l ((List.range ws.length).map fun (j : Nat) => (at_ + (i + (j : Int)), ws.getD j 0))
  | [], _, _ => rfl
  | x :: xs, l, i => by
    unfold vwrites
    rw [List.length_cons, List.range_succ_eq_map, List.map_cons, List.map_map]
    unfold vsets
    simp only [Int.natCast_zero, Int.add_zero, List.getD_cons_zero]
    split
    · rw [vwrites_vsets img at_ xs]
      congr 1
      refine List.map_congr_left fun j _ => ?_
      simp only [Function.comp, Nat.succ_eq_add_one, List.getD_cons_succ, Int.natCast_add, Int.natCast_one]
      congr 2
      omega
    · rfl
theorem rput10_eq (img : List Int) (l : List (Int × Int)) (i : Int) (o : Bool) (g k : Int) : rput10_M img l i o g k = some (putF img l i o g k) := by
  unfold rput10_M putF rput10_J1
  rw [rthere_eq]
  simp only [Option.bind]
  by_cases h : thereF img i 0 = 0
  · have := thereF_zero h
    rw [if_pos h, if_pos h]
    have e : ∀ p : Int, vwrites img (sessAt i) l 0 [p, g, k] = vsets img l [(sessAt i, p), (sessAt i + 1, g), (sessAt i + 2, k)] := by
      intro p
      rw [vwrites_vsets]
      simp [List.range_succ]
    cases o
    · simp only [Bool.false_eq_true, if_false]
      rw [need, if_pos (by omega), e]
    · simp only [if_true]
      rw [need, if_pos (by omega), e]
  · rw [if_neg h, if_neg h]
theorem VJ.putF {i : Int} {o : Bool} {g k : Int} (h : VJ img l) (hg : U64 g) (hk : U64 k) : VJ img (putF img l i o g k).2 := by
  unfold Go.Proofs.YthimamnblklkbaaDoor.putF
  split
  · refine h.vsets ?_
    intro p hp
    simp only [List.mem_cons, List.not_mem_nil, or_false] at hp
    rcases hp with rfl | rfl | rfl
    · simp only; unfold U64; split <;> omega
    · exact hg
    · exact hk
  · exact h
end Go.Proofs.YthimamnblklkbaaDoor

namespace Go.Proofs.YthimamnblklkbaaDoor
open Go Go.RowKit
set_option linter.unusedVariables false
set_option linter.unusedSimpArgs false

variable {img : List Int} {l : List (Int × Int)}
def bytesF (ws : List Int) (n : Nat) : List Int := (List.range n).map fun (j : Nat) => shrK .u64 (ws.getD (j / 8) 0) (8 * ((j % 8 : Nat) : Int)) % 256
theorem bytesF_succ (ws : List Int) (n : Nat) : bytesF ws (n + 1) = bytesF ws n ++ [shrK .u64 (ws.getD (n / 8) 0) (8 * ((n % 8 : Nat) : Int)) % 256] := by
  unfold bytesF
  rw [List.range_succ, List.map_append]
  rfl
theorem bytesF_len (ws : List Int) (n : Nat) : (bytesF ws n).length = n := by unfold bytesF; simp
theorem quo8 {p : Int} (h : 0 ≤ p) : p.tdiv 8 = p / 8 := Int.tdiv_eq_ediv_of_nonneg h
theorem rem8 {p : Int} (h : 0 ≤ p) : p.tmod 8 = p % 8 := Int.tmod_eq_emod_of_nonneg h
theorem runpack_eq {ws : List Int} {n : Int} (h0 : 0 ≤ n) (hn : n ≤ 8 * (ws.length : Int)) (hl : ws.length ≤ 1000) : runpack_M ws n = some (strOfNums (bytesF ws n.toNat), 0) := by
  unfold runpack_M
  rw [if_neg (by omega), need, if_pos (by omega), if_neg (by omega)]
  refine iter_run (fun s => 0 ≤ s.2 ∧ s.2 ≤ n ∧ s.1 = bytesF ws s.2.toNat) (fun s => (n - s.2).toNat) ?_ _ _ ⟨by simp, by simp; omega, rfl⟩ (fuel_lt (by simp only; omega))
  rintro k ⟨q, p⟩ ⟨h1, h2, h3⟩ ih
  simp only at h1 h2 h3 ih
  subst h3
  unfold runpack_B0
  simp only
  by_cases h : p < n
  · rw [if_pos h, quo8 h1, rem8 h1, bytesF_len]
    refine need_of (by omega) (need_of (by omega) (need_of (by omega) (need_of (by omega) (need_of (by omega) (need_of (by omega) (need_of (by omega) (ih _ ⟨by simp only; omega, by simp only; omega, ?_⟩ (by simp only; omega))))))))
    simp only
    rw [show (p + 1).toNat = p.toNat + 1 by omega, bytesF_succ, show (p / 8).toNat = p.toNat / 8 by omega, show ((p.toNat % 8 : Nat) : Int) = p % 8 by omega]
  · rw [if_neg h, show p = n by omega]
theorem unpack_eq {ws : List Int} {n : Int} (h0 : 0 ≤ n) (hn : n ≤ 8 * (ws.length : Int)) (hl : ws.length ≤ 1000) : unpack_M ws n = some (strOfNums (bytesF ws n.toNat), 0) := by
  unfold unpack_M
  rw [if_neg (by omega), need, if_pos (by omega), if_neg (by omega), need, if_pos (by omega)]
  refine iter_run (fun s => 0 ≤ s.2 ∧ s.2 ≤ n ∧ s.1.length = n.toNat ∧ s.1.take s.2.toNat = bytesF ws s.2.toNat) (fun s => (n - s.2).toNat) ?_ _ _ ⟨by simp, by simp; omega, by simp, rfl⟩ (fuel_lt (by simp only; omega))
  rintro k ⟨q, p⟩ ⟨h1, h2, h3, h4⟩ ih
  simp only at h1 h2 h3 h4 ih
  unfold unpack_B0
  simp only
  by_cases h : p < n
  · rw [if_pos (by omega), quo8 h1, rem8 h1]
    refine need_of (by omega) (need_of (by omega) (need_of (by omega) (need_of (by omega) (need_of (by omega) (need_of (by omega) (need_of (by omega) (ih _ ⟨by simp only; omega, by simp only; omega, by simp only [List.length_set]; exact h3, ?_⟩ (by simp only; omega))))))))
    simp only
    rw [show (p + 1).toNat = p.toNat + 1 by omega, bytesF_succ, ← h4, show (p / 8).toNat = p.toNat / 8 by omega, show ((p.toNat % 8 : Nat) : Int) = p % 8 by omega]
    have hlt : p.toNat < q.length := by omega
    rw [List.take_add_one, List.take_set_of_le (Nat.le_refl _)]
    simp [hlt]
  · rw [if_neg (by omega)]
    refine need_of (by omega) ?_
    have e : p = n := by omega
    subst e
    rw [List.take_of_length_le (by omega)] at h4
    rw [h4]

def loadF (img : List Int) (l : List (Int × Int)) (i k : Int) : Int × Int × Int × Int × ByteArray × Int :=
  if thereF img i k = 0 then
    if vget img l (slotAt i k) = 0 then (0, 0, 0, 0, ByteArray.empty, 0)
    else if (vget img l (slotAt i k + 1)).tmod 256 > 24 then (0, 0, 0, 0, ByteArray.empty, 4)
    else if (vget img l (slotAt i k + 1)).tdiv 256 > 64 then (0, 0, 0, 0, ByteArray.empty, 4)
    else (vget img l (slotAt i k), (vget img l (slotAt i k + 1)).tmod 256, vget img l (slotAt i k + 2), vget img l (slotAt i k + 3),
      strOfNums (bytesF [vget img l (slotAt i k + 4), vget img l (slotAt i k + 5), vget img l (slotAt i k + 6), vget img l (slotAt i k + 7), vget img l (slotAt i k + 8), vget img l (slotAt i k + 9), vget img l (slotAt i k + 10), vget img l (slotAt i k + 11)] ((vget img l (slotAt i k + 1)).tdiv 256).toNat), 0)
  else (0, 0, 0, 0, ByteArray.empty, thereF img i k)
theorem mod256 {w : Int} (h : U64 w) : w.tmod 256 = w % 256 ∧ w.tdiv 256 = w / 256 := ⟨Int.tmod_eq_emod_of_nonneg h.1, Int.tdiv_eq_ediv_of_nonneg h.1⟩
theorem sload_eq (hv : VR img l) (i k : Int) : sload_M img l i k = some (loadF img l i k) := by
  unfold sload_M
  obtain ⟨a, e, ha⟩ := sfind_eq img i k
  rw [e]
  simp only [Option.bind]
  unfold loadF
  by_cases h : thereF img i k = 0
  · have ht := thereF_zero h
    rw [if_pos h, if_pos h, ha h]
    unfold sload_J1
    by_cases h2 : vget img l (slotAt i k) = 0
    · rw [if_pos h2, if_pos (by simp [h2]), h]
    · rw [if_neg h2, if_neg (by simp [h2])]
      have hw := hv (slotAt i k + 1)
      have hm := mod256 hw
      have hw' : 0 ≤ vget img l (slotAt i k + 1) ∧ vget img l (slotAt i k + 1) < 18446744073709551616 := hw
      generalize vget img l (slotAt i k + 1) = x at *
      refine need_of (by omega) (need_of (by omega) (need_of (by omega) ?_))
      simp only [Option.bind]
      unfold sload_J2
      by_cases h3 : x.tmod 256 > 24
      · rw [if_pos h3, if_pos h3, if_pos rfl]
      · rw [if_neg h3, if_neg h3]
        by_cases h4 : x.tdiv 256 > 64
        · rw [if_pos h4, if_pos (by simp [h4])]
        · rw [if_neg h4, if_neg (by simp [h4])]
          have hu := unpack_eq (ws := [vget img l (slotAt i k + 4), vget img l (slotAt i k + 5), vget img l (slotAt i k + 6), vget img l (slotAt i k + 7), vget img l (slotAt i k + 8), vget img l (slotAt i k + 9), vget img l (slotAt i k + 10), vget img l (slotAt i k + 11)]) (n := x.tdiv 256) (by omega) (by simp only [List.length_cons, List.length_nil]; omega) (by simp)
          rw [hu]
          simp only [Option.bind]
          refine need_of (by omega) (need_of (by omega) (need_of (by omega) (need_of (by omega) (need_of (by omega) (need_of (by omega) (need_of (by omega) (need_of (by omega) (need_of (by omega) ?_))))))))
          rw [if_pos trivial]
          exact need_of (by omega) (need_of (by omega) (need_of (by omega) rfl))
  · rw [if_neg h, if_neg h]
    unfold sload_J1
    rw [if_pos rfl]
theorem rload_eq (hv : VR img l) (i k : Int) : rload_M img l i k = some (loadF img l i k) := by
  unfold rload_M
  rw [rthere_eq]
  simp only [Option.bind]
  unfold loadF
  by_cases h : thereF img i k = 0
  · have ht := thereF_zero h
    rw [if_pos h, if_pos h]
    by_cases h2 : vget img l (slotAt i k) = 0
    · rw [if_pos h2, if_pos h2]
    · rw [if_neg h2, if_neg h2]
      have hw := hv (slotAt i k + 1)
      have hm := mod256 hw
      have hw' : 0 ≤ vget img l (slotAt i k + 1) ∧ vget img l (slotAt i k + 1) < 18446744073709551616 := hw
      generalize vget img l (slotAt i k + 1) = x at *
      refine need_of (by omega) ?_
      unfold rload_J1
      by_cases h3 : x.tmod 256 > 24
      · rw [if_pos h3, if_pos h3, if_pos rfl]
      · rw [if_neg h3, if_neg h3]
        refine need_of (by omega) ?_
        by_cases h4 : x.tdiv 256 > 64
        · rw [if_pos h4, if_pos (by simp [h4])]
        · rw [if_neg h4, if_neg (by simp [h4])]
          have hu := runpack_eq (ws := [vget img l (slotAt i k + 4), vget img l (slotAt i k + 5), vget img l (slotAt i k + 6), vget img l (slotAt i k + 7), vget img l (slotAt i k + 8), vget img l (slotAt i k + 9), vget img l (slotAt i k + 10), vget img l (slotAt i k + 11)]) (n := x.tdiv 256) (by omega) (by simp only [List.length_cons, List.length_nil]; omega) (by simp)
          have ea : ∀ j : Int, slotAt i k + 4 + j = slotAt i k + (4 + j) := fun j => Int.add_assoc _ _ _
          simp only [ea] 
          simp only [show (4 : Int) + 0 = 4 from rfl, show (4 : Int) + 1 = 5 from rfl, show (4 : Int) + 2 = 6 from rfl, show (4 : Int) + 3 = 7 from rfl, show (4 : Int) + 4 = 8 from rfl, show (4 : Int) + 5 = 9 from rfl, show (4 : Int) + 6 = 10 from rfl, show (4 : Int) + 7 = 11 from rfl]
          rw [hu]
          simp only [Option.bind]
          repeat refine need_of (by omega) ?_
          rfl
  · rw [if_neg h, if_neg h]

def wipeL (i : Int) : List (Int × Int) := [(slotAt i 0, 0), (slotAt i 1, 0), (slotAt i 2, 0), (slotAt i 3, 0), (descAt i 0, 0), (descAt i 0 + 1, 0), (descAt i 1, 0), (descAt i 1 + 1, 0), (descAt i 2, 0), (descAt i 2 + 1, 0), (descAt i 3, 0), (descAt i 3 + 1, 0)]
def wipeF (img : List Int) (l : List (Int × Int)) (i : Int) : Int × List (Int × Int) :=
  if thereF img i 0 = 0 then vsets img l (wipeL i) else (thereF img i 0, l)
theorem desc_range (i k : Int) : -1 ≤ descAt i k ∧ descAt i k ≤ 1000 := by
  unfold descAt; split <;> omega
theorem swipe_eq (img : List Int) (l : List (Int × Int)) (i : Int) : swipe_M img l i = some (wipeF img l i) := by
  unfold swipe_M wipeF wipeL
  rw [ssess_eq]
  simp only [Option.bind]
  have h0 := desc_range i 0
  have h1 := desc_range i 1
  have h2 := desc_range i 2
  have h3 := desc_range i 3
  by_cases h : thereF img i 0 = 0
  · rw [if_pos h, if_pos h]
    exact need_of (by omega) (need_of (by omega) (need_of (by omega) (need_of (by omega) rfl)))
  · rw [if_neg h, if_neg h]
theorem vsets_cons (img : List Int) (x : Int × Int) (xs l : List (Int × Int)) : vsets img l (x :: xs) = if (vwrite img l x.1 x.2).1 = 0 then vsets img (vwrite img l x.1 x.2).2 xs else vwrite img l x.1 x.2 := by rw [vsets]
theorem vsets_append (img : List Int) : ∀ (xs ys : List (Int × Int)) (l : List (Int × Int)), vsets img l (xs ++ ys) = if (vsets img l xs).1 = 0 then vsets img (vsets img l xs).2 ys else vsets img l xs
  | [], _, _ => rfl
  | x :: xs, ys, l => by
    rw [List.cons_append, vsets_cons, vsets_cons]
    by_cases h : (vwrite img l x.1 x.2).1 = 0
    · rw [if_pos h, if_pos h, vsets_append img xs ys]
    · rw [if_neg h, if_neg h, if_neg h]
theorem VJ.wipeF {i : Int} (h : VJ img l) : VJ img (wipeF img l i).2 := by
  unfold Go.Proofs.YthimamnblklkbaaDoor.wipeF
  split
  · refine h.vsets ?_
    intro p hp
    unfold wipeL at hp
    simp only [List.mem_cons, List.not_mem_nil, or_false] at hp
    rcases hp with rfl | rfl | rfl | rfl | rfl | rfl | rfl | rfl | rfl | rfl | rfl | rfl <;> exact u64_zero
  · exact h
theorem wipeL_drop (i : Int) {j : Int} (h : 0 ≤ j ∧ j < 4) : (wipeL i).drop j.toNat = (slotAt i j, 0) :: (wipeL i).drop (j + 1).toNat := by
  have : j = 0 ∨ j = 1 ∨ j = 2 ∨ j = 3 := by omega
  rcases this with rfl | rfl | rfl | rfl <;> rfl
theorem wipeL_drop2 (i : Int) {j : Int} (h : 0 ≤ j ∧ j < 4) : (wipeL i).drop (4 + 2 * j.toNat) = [(descAt i j, 0), (descAt i j + 1, 0)] ++ (wipeL i).drop (4 + 2 * (j + 1).toNat) := by
  have : j = 0 ∨ j = 1 ∨ j = 2 ∨ j = 3 := by omega
  rcases this with rfl | rfl | rfl | rfl <;> rfl
theorem rwipe10_eq (img : List Int) (l : List (Int × Int)) (i : Int) : rwipe10_M img l i = some (wipeF img l i) := by
  unfold rwipe10_M
  rw [rthere_eq]
  simp only [Option.bind]
  have J : ∀ (m : List (Int × Int)) (p : Int), (if p = 0 then vsets img m ((wipeL i).drop 4) else (p, m)) = wipeF img l i → rwipe10_J1 img i m p = some (wipeF img l i) := by
    intro m p hm
    unfold rwipe10_J1
    refine iter_run (fun s => 0 ≤ s.2.2 ∧ s.2.2 ≤ 4 ∧ (if s.2.1 = 0 then vsets img s.1 ((wipeL i).drop (4 + 2 * s.2.2.toNat)) else (s.2.1, s.1)) = wipeF img l i) (fun s => (4 - s.2.2).toNat) ?_ _ _ ⟨by simp, by simp, hm⟩ (fuel_lt (by simp only; omega))
    rintro k ⟨m, p, j⟩ ⟨h1, h2, h3⟩ ih
    simp only at h1 h2 h3 ih
    unfold rwipe10_B1
    simp only
    by_cases h : j < 4
    · rw [if_pos h]
      by_cases hp : p = 0
      · rw [if_pos hp] at h3 ⊢
        have hd := desc_range i j
        refine need_of (by omega) ?_
        simp only [Option.bind]
        refine need_of (by omega) ?_
        refine ih _ ⟨by simp only; omega, by simp only; omega, ?_⟩ (by simp only; omega)
        simp only
        rw [wipeL_drop2 i ⟨h1, h⟩, vsets_append] at h3
        have e : vwrites img (descAt i j) m 0 [0, 0] = vsets img m [(descAt i j, 0), (descAt i j + 1, 0)] := by
          rw [vwrites_vsets]; simp [List.range_succ]
        rw [e]
        exact h3
      · rw [if_neg hp] at h3 ⊢
        rw [h3]
    · rw [if_neg h]
      have e : j = 4 := by omega
      subst e
      by_cases hp : p = 0
      · subst hp
        rw [if_pos rfl] at h3
        rw [← h3]
        rfl
      · rw [if_neg hp] at h3
        rw [h3]
  refine iter_run (fun s => 0 ≤ s.2.2 ∧ s.2.2 ≤ 4 ∧ (if s.2.1 = 0 then vsets img s.1 ((wipeL i).drop s.2.2.toNat) else (s.2.1, s.1)) = wipeF img l i) (fun s => (4 - s.2.2).toNat) ?_ _ _ ⟨by simp, by simp, ?_⟩ (fuel_lt (by simp only; omega))
  · rintro k ⟨m, p, j⟩ ⟨h1, h2, h3⟩ ih
    simp only at h1 h2 h3 ih
    unfold rwipe10_B0
    simp only
    by_cases h : j < 4
    · rw [if_pos h]
      by_cases hp : p = 0
      · rw [if_pos hp] at h3 ⊢
        simp only [Option.bind]
        refine need_of (by omega) ?_
        refine ih _ ⟨by simp only; omega, by simp only; omega, ?_⟩ (by simp only; omega)
        simp only
        rw [wipeL_drop i ⟨h1, h⟩] at h3
        exact h3
      · rw [if_neg hp] at h3 ⊢
        exact J m p (by rw [if_neg hp]; exact h3)
    · rw [if_neg h]
      have e : j = 4 := by omega
      subst e
      exact J m p h3
  · simp only
    rfl
end Go.Proofs.YthimamnblklkbaaDoor

namespace Go.Proofs.YthimamnblklkbaaDoor
open Go Go.RowKit
set_option linter.unusedVariables false
set_option linter.unusedSimpArgs false

variable {img : List Int} {l : List (Int × Int)}
theorem thereF_in {i k : Int} (hi : 0 ≤ i ∧ i < 4) (hk : 0 ≤ k ∧ k < 4) (hl : 264 ≤ (img.length : Int)) : thereF img i k = 0 := by
  unfold thereF
  have := sess_range i
  rw [if_neg (by omega), if_neg (by omega), if_neg (by omega), if_neg (by omega), if_neg (by omega)]
theorem getF_in {i : Int} {o : Bool} (h0 : thereF img i 0 = 0) (h1 : vget img l (sessAt i) = if o = true then 1 else 0) : getF img l i = (o, vget img l (sessAt i + 1), vget img l (sessAt i + 2), 0) := by
  unfold getF
  rw [if_pos h0, h1]
  cases o <;> rfl
theorem getD_set (l : List Int) (i j : Nat) (a : Int) : (l.set i a).getD j 0 = if i = j ∧ j < l.length then a else l.getD j 0 := by
  simp only [List.getD_eq_getElem?_getD, List.getElem?_set]
  by_cases h : i = j
  · subst h
    by_cases h2 : i < l.length
    · simp [h2]
    · simp [h2]
  · simp [h]
end Go.Proofs.YthimamnblklkbaaDoor

namespace Go.Proofs.YthimamnblklkbaaDoor
open Go Go.RowKit
set_option linter.unusedVariables false
set_option linter.unusedSimpArgs false

variable {img : List Int} {l : List (Int × Int)}
def said (k : Int) : List (Int × Int) → Int → Int
  | [], d => d
  | p :: ps, d => said k ps (if k = p.1 then p.2 else d)
theorem said_out {k : Int} : ∀ {ps : List (Int × Int)} {d : Int}, (∀ p ∈ ps, ¬ k = p.1) → said k ps d = d
  | [], _, _ => rfl
  | p :: ps, d, h => by
    unfold said
    rw [if_neg (h p (by simp))]
    exact said_out fun q hq => h q (by simp [hq])
theorem vwrite_in (hv : VJ img l) {a x : Int} (ha : 0 ≤ a ∧ a < (img.length : Int)) (hx : U64 x) (hl : l.length < 96) :
    ∃ m, vwrite img l a x = (0, m) ∧ VJ img m ∧ m.length ≤ l.length + 1 ∧ ∀ k, vget img m k = if k = a then x else vget img l k := by
  unfold vwrite
  rw [if_neg (by omega)]
  by_cases h : vget img l a = x
  · rw [if_pos h]
    refine ⟨l, rfl, hv, by omega, fun k => ?_⟩
    by_cases hk : k = a
    · rw [if_pos hk, hk, h]
    · rw [if_neg hk]
  · rw [if_neg h, vput_in ha hl]
    have hlen := vput_len img l a x
    rw [vput_in ha hl] at hlen
    exact ⟨_, rfl, ⟨hv.1.put ha hx, hv.2.put ha (.inr hl)⟩, hlen, fun k => vget_vset ha⟩
theorem vsets_in : ∀ (xs : List (Int × Int)) (l : List (Int × Int)), VJ img l → (∀ p ∈ xs, (0 ≤ p.1 ∧ p.1 < (img.length : Int)) ∧ U64 p.2) → l.length + xs.length ≤ 96 →
    ∃ m, vsets img l xs = (0, m) ∧ VJ img m ∧ m.length ≤ l.length + xs.length ∧ ∀ k, vget img m k = said k xs (vget img l k)
  | [], l, hv, _, _ => ⟨l, rfl, hv, by simp, fun k => rfl⟩
  | x :: xs, l, hv, hx, hl => by
    simp only [List.length_cons] at hl
    obtain ⟨m, e, hm, hlen, hg⟩ := vwrite_in hv (hx x (by simp)).1 (hx x (by simp)).2 (by omega)
    obtain ⟨m2, e2, hm2, hlen2, hg2⟩ := vsets_in xs m hm (fun p hp => hx p (by simp [hp])) (by omega)
    refine ⟨m2, ?_, hm2, by simp only [List.length_cons]; omega, fun k => ?_⟩
    · rw [vsets_cons, e]
      exact e2
    · rw [hg2, hg]; rfl
theorem putF_in (hv : VJ img l) {i : Int} {o : Bool} {g k : Int} (h0 : thereF img i 0 = 0) (hg : U64 g) (hk : U64 k) (hl : l.length + 3 ≤ 96) :
    ∃ m, putF img l i o g k = (0, m) ∧ VJ img m ∧ m.length ≤ l.length + 3 ∧ ∀ j, vget img m j = said j [(sessAt i, if o = true then 1 else 0), (sessAt i + 1, g), (sessAt i + 2, k)] (vget img l j) := by
  have ht := thereF_zero h0
  unfold putF
  rw [if_pos h0]
  refine vsets_in _ l hv ?_ (by simpa using hl)
  intro p hp
  simp only [List.mem_cons, List.not_mem_nil, or_false] at hp
  rcases hp with rfl | rfl | rfl
  · refine ⟨by simp only; omega, ?_⟩; simp only; unfold U64; split <;> omega
  · exact ⟨by simp only; omega, hg⟩
  · exact ⟨by simp only; omega, hk⟩
theorem wipeL_in {i : Int} (hi : 0 ≤ i ∧ i < 4) : ∀ p ∈ wipeL i, (16 + 64 * i ≤ p.1 ∧ p.1 < 72 + 64 * i) ∧ p.2 = 0 := by
  intro p hp
  have a : ∀ k : Int, 0 ≤ k ∧ k < 4 → slotAt i k = 16 + 64 * i + 12 * k := by intro k hk; unfold slotAt; rw [if_pos (by omega)]
  have b : ∀ k : Int, 0 ≤ k ∧ k < 4 → descAt i k = 64 + 64 * i + 2 * k := by intro k hk; unfold descAt; rw [if_pos (by omega)]
  have a0 := a 0 (by omega)
  have a1 := a 1 (by omega)
  have a2 := a 2 (by omega)
  have a3 := a 3 (by omega)
  have b0 := b 0 (by omega)
  have b1 := b 1 (by omega)
  have b2 := b 2 (by omega)
  have b3 := b 3 (by omega)
  unfold wipeL at hp
  simp only [List.mem_cons, List.not_mem_nil, or_false] at hp
  rcases hp with rfl | rfl | rfl | rfl | rfl | rfl | rfl | rfl | rfl | rfl | rfl | rfl <;> exact ⟨by simp only; omega, rfl⟩
end Go.Proofs.YthimamnblklkbaaDoor

namespace Go.Proofs.YthimamnblklkbaaDoor
open Go Go.RowKit
set_option linter.unusedVariables false
set_option linter.unusedSimpArgs false

def valB : List Int → Int
  | [] => 0
  | b :: bs => b + 256 * valB bs
def Byt (xs : List Int) : Prop := ∀ x ∈ xs, 0 ≤ x ∧ x < 256
theorem Byt.nil : Byt [] := by intro x hx; simp at hx
theorem Byt.cons {x : Int} {xs : List Int} (h : Byt (x :: xs)) : (0 ≤ x ∧ x < 256) ∧ Byt xs := ⟨h x (by simp), fun y hy => h y (by simp [hy])⟩
theorem Byt.drop {xs : List Int} (h : Byt xs) (n : Nat) : Byt (xs.drop n) := fun x hx => h x (List.mem_of_mem_drop hx)
theorem Byt.take {xs : List Int} (h : Byt xs) (n : Nat) : Byt (xs.take n) := fun x hx => h x (List.mem_of_mem_take hx)
theorem byt_str (s : ByteArray) : Byt (strNums s) := by
  intro x hx
  unfold strNums at hx
  obtain ⟨b, _, rfl⟩ := List.mem_map.1 hx
  have := b.toNat_lt
  omega
theorem Byt.getD {xs : List Int} (h : Byt xs) (k : Nat) : 0 ≤ xs.getD k 0 ∧ xs.getD k 0 < 256 := by
  rw [List.getD_eq_getElem?_getD]
  rcases Nat.lt_or_ge k xs.length with hk | hk
  · rw [List.getElem?_eq_getElem hk]; exact h _ (List.getElem_mem hk)
  · rw [List.getElem?_eq_none hk]; simp
theorem valB_range : ∀ {xs : List Int}, Byt xs → 0 ≤ valB xs ∧ valB xs < 256 ^ xs.length
  | [], _ => by simp [valB]
  | x :: xs, h => by
    have h1 := h.cons.1
    have h2 := valB_range h.cons.2
    simp only [valB, List.length_cons, Int.pow_succ]
    omega
theorem pow256 {n : Nat} (h : n ≤ 8) : (256 : Int) ^ n ≤ 18446744073709551616 := by
  have : n = 0 ∨ n = 1 ∨ n = 2 ∨ n = 3 ∨ n = 4 ∨ n = 5 ∨ n = 6 ∨ n = 7 ∨ n = 8 := by omega
  rcases this with rfl | rfl | rfl | rfl | rfl | rfl | rfl | rfl | rfl <;> decide
theorem valB_u64 {xs : List Int} (h : Byt xs) (hl : xs.length ≤ 8) : U64 (valB xs) := by
  have := valB_range h
  have := pow256 hl
  unfold U64; omega
theorem valB_snoc : ∀ (xs : List Int) (b : Int), valB (xs ++ [b]) = valB xs + b * 256 ^ xs.length
  | [], b => by simp [valB]
  | x :: xs, b => by
    simp only [List.cons_append, valB, valB_snoc xs b, List.length_cons, Int.pow_succ]
    rw [Int.mul_add, ← Int.mul_assoc, Int.mul_comm 256 b, Int.mul_assoc b 256, Int.mul_comm 256 (256 ^ xs.length)]
    omega
theorem valB_byte : ∀ {xs : List Int}, Byt xs → ∀ j : Nat, valB xs / 256 ^ j % 256 = xs.getD j 0
  | [], _, j => by simp [valB]
  | x :: xs, h, 0 => by
    have h1 := h.cons.1
    simp only [valB, Int.pow_zero, Int.ediv_one, List.getD_cons_zero]
    omega
  | x :: xs, h, j + 1 => by
    have h1 := h.cons.1
    have ih := valB_byte h.cons.2 j
    have e : (x + 256 * valB xs) / 256 = valB xs := by omega
    rw [valB, List.getD_cons_succ, ← ih, Int.pow_succ, Int.mul_comm (256 ^ j) 256, ← Int.ediv_ediv_of_nonneg (by decide), e]
theorem pow8 {j : Nat} (h : j < 8) : (2 : Int) ^ (min (8 * (j : Int)).toNat 64) = 256 ^ j := by
  have : j = 0 ∨ j = 1 ∨ j = 2 ∨ j = 3 ∨ j = 4 ∨ j = 5 ∨ j = 6 ∨ j = 7 := by omega
  rcases this with rfl | rfl | rfl | rfl | rfl | rfl | rfl | rfl <;> decide
theorem shr_bytes {v : Int} {j : Nat} (hv : 0 ≤ v) (h : j < 8) : shrK .u64 v (8 * (j : Int)) = v / 256 ^ j := by
  unfold shrK
  show v.fdiv (2 ^ (min (8 * (j : Int)).toNat 64)) = _
  rw [pow8 h, Int.fdiv_eq_ediv_of_nonneg]
  exact Int.pow_nonneg (by decide)
theorem shl_bytes {b : Int} {j : Nat} (hb : 0 ≤ b ∧ b < 256) (h : j < 8) : shlK .u64 b (8 * (j : Int)) = b * 256 ^ j := by
  unfold shlK
  show IntKind.u64.wrap (b * 2 ^ (min (8 * (j : Int)).toNat 64)) = _
  rw [pow8 h]
  have : j = 0 ∨ j = 1 ∨ j = 2 ∨ j = 3 ∨ j = 4 ∨ j = 5 ∨ j = 6 ∨ j = 7 := by omega
  rcases this with rfl | rfl | rfl | rfl | rfl | rfl | rfl | rfl <;> exact wrap_u64 (by omega) (by omega)

def packF (s : ByteArray) : List Int := (List.range ((s.size + 7) / 8)).map fun (q : Nat) => valB (((strNums s).drop (8 * q)).take 8)
theorem packF_len (s : ByteArray) : (packF s).length = (s.size + 7) / 8 := by unfold packF; simp
theorem packF_get (s : ByteArray) {q : Nat} (h : q < (s.size + 7) / 8) : (packF s).getD q 0 = valB (((strNums s).drop (8 * q)).take 8) := by
  unfold packF
  simp [List.getD, h]
theorem packF_u64 (s : ByteArray) : ∀ x ∈ packF s, U64 x := by
  intro x hx
  unfold packF at hx
  obtain ⟨q, _, rfl⟩ := List.mem_map.1 hx
  exact valB_u64 (((byt_str s).drop _).take _) (by simp; omega)
theorem getD_part (xs : List Int) (q j : Nat) (h : j < 8) : ((xs.drop (8 * q)).take 8).getD j 0 = xs.getD (8 * q + j) 0 := by
  simp only [List.getD_eq_getElem?_getD, List.getElem?_take, if_pos h, List.getElem?_drop]
theorem bytesF_get (ws : List Int) {n j : Nat} (h : j < n) : (bytesF ws n).getD j 0 = shrK .u64 (ws.getD (j / 8) 0) (8 * ((j % 8 : Nat) : Int)) % 256 := by
  unfold bytesF
  simp [List.getD, h]
theorem bytesF_pack {s : ByteArray} {ws : List Int} (h : ∀ q, q < (s.size + 7) / 8 → ws.getD q 0 = (packF s).getD q 0) : bytesF ws s.size = strNums s := by
  refine eq_of_getD 0 (by rw [bytesF_len, strNums_len]) fun j h1 => ?_
  rw [bytesF_len] at h1
  have hb : Byt (((strNums s).drop (8 * (j / 8))).take 8) := ((byt_str s).drop _).take _
  rw [bytesF_get ws h1, h _ (by omega), packF_get s (by omega), shr_bytes (valB_range hb).1 (by omega), valB_byte hb, getD_part _ _ _ (by omega), show 8 * (j / 8) + j % 8 = j by omega]
theorem str_nums (s : ByteArray) : strOfNums (strNums s) = s := by
  unfold strOfNums strNums
  cases s with | mk d =>
  congr 1
  apply Array.ext'
  simp [List.map_map, Function.comp_def]
end Go.Proofs.YthimamnblklkbaaDoor

namespace Go.Proofs.YthimamnblklkbaaDoor
open Go Go.RowKit
set_option linter.unusedVariables false

def st1 (m x : Nat) : Nat := ((x / 2) &&& m) + (x &&& m)
def st2 (m x : Nat) : Nat := ((x / 4) &&& m) + (x &&& m)
def st3 (m x : Nat) : Nat := (x / 16 + x) &&& m

end Go.Proofs.YthimamnblklkbaaDoor

namespace Go.Proofs.YthimamnblklkbaaDoor
open Go Go.RowKit
set_option linter.unusedVariables false

def bitI (v : Int) (j : Nat) : Bool := v.toNat.testBit j
theorem bitI_out {v : Int} {j : Nat} (h : U64 v) (hj : 64 ≤ j) : bitI v j = false := by
  have hl : v.toNat < 2 ^ 64 := by unfold U64 at h; omega
  exact Nat.testBit_lt_two_pow (Nat.lt_of_lt_of_le hl (Nat.pow_le_pow_right (by omega) hj))
theorem bitI_ext {x y : Int} (hx : U64 x) (hy : U64 y) (h : ∀ j, j < 64 → bitI x j = bitI y j) : x = y := by
  have e : x.toNat = y.toNat := Nat.eq_of_testBit_eq fun j => by
    by_cases hj : j < 64
    · exact h j hj
    · exact (bitI_out hx (by omega)).trans (bitI_out hy (by omega)).symm
  unfold U64 at hx hy
  omega
theorem ofInt_of {x : Int} (h : U64 x) : BitVec.ofInt 64 x = BitVec.ofNat 64 x.toNat := by
  obtain ⟨n, rfl⟩ := Int.eq_ofNat_of_zero_le h.1
  simp
theorem bits_of {op : BinOp} {x y : Int} (hx : U64 x) (hy : U64 y) : bits op .u64 x y = (((match op with
    | .and => BitVec.ofNat 64 x.toNat &&& BitVec.ofNat 64 y.toNat
    | .or => BitVec.ofNat 64 x.toNat ||| BitVec.ofNat 64 y.toNat
    | .xor => BitVec.ofNat 64 x.toNat ^^^ BitVec.ofNat 64 y.toNat
    | _ => BitVec.ofNat 64 x.toNat &&& ~~~(BitVec.ofNat 64 y.toNat)) : BitVec 64).toNat : Int) := by
  unfold bits
  rw [show IntKind.u64.bits = 64 from rfl]
  simp only [ofInt_of hx, ofInt_of hy]
  have h : ∀ b : BitVec 64, IntKind.u64.wrap (b.toNat : Int) = (b.toNat : Int) := fun b => wrap_u64 (Int.natCast_nonneg _) (Int.ofNat_lt.2 b.isLt)
  exact h _
theorem bits_u64 {op : BinOp} {x y : Int} (hx : U64 x) (hy : U64 y) : U64 (bits op .u64 x y) := by
  rw [bits_of hx hy]
  exact ⟨Int.natCast_nonneg _, Int.ofNat_lt.2 (BitVec.isLt _)⟩
theorem bitI_cast (b : BitVec 64) (j : Nat) : bitI (b.toNat : Int) j = b.getLsbD j := by
  unfold bitI
  rw [Int.toNat_natCast]
  exact BitVec.testBit_toNat b
theorem lsb_of {x : Int} {j : Nat} (hx : U64 x) : (BitVec.ofNat 64 x.toNat).getLsbD j = bitI x j := by
  rw [BitVec.getLsbD_ofNat]
  by_cases hj : j < 64
  · simp [hj, bitI]
  · have := bitI_out (j := j) hx (by omega)
    simp [hj, this]
theorem bitI_or {x y : Int} {j : Nat} (hx : U64 x) (hy : U64 y) : bitI (bits .or .u64 x y) j = (bitI x j || bitI y j) := by
  rw [bits_of hx hy, bitI_cast, BitVec.getLsbD_or, lsb_of hx, lsb_of hy]
end Go.Proofs.YthimamnblklkbaaDoor

set_option linter.unusedVariables false
set_option maxRecDepth 20000
set_option maxHeartbeats 2000000
namespace Go.Proofs.YthimamnblklkbaaDoor
open Go Go.RowKit
set_option linter.unusedSimpArgs false
set_option linter.unusedVariables false

def rsave_M (img : List Int) (l : List (Int × Int)) (i_ : Int) (k_ : Int) (q_ : Int) (re_ : Int) (ra_ : Int) (rb_ : Int) (rs_ : ByteArray) : Option (Int × List (Int × Int)) :=
 if i_ < 0 then (some (1, l)) else (if i_ ≥ 4 then (some (1, l)) else (if k_ < 0 then (some (1, l)) else (if k_ ≥ 4 then (some (1, l)) else (if q_ < 1 then (some (1, l)) else (if q_ > 1099511627776 then (some (1, l)) else ((rmay10_M re_ rs_).bind fun r31 =>
if r31 = true then ((rthere_M img i_ k_).bind fun r38 =>
if r38 = 0 then (need (0 ≤ re_ ∧ re_ ≤ 18446744073709551615) <|
need (0 ≤ (rs_.size : Int) ∧ (rs_.size : Int) ≤ 18446744073709551615) <|
(rpack_M rs_).bind fun r59 =>
need (r59.length ≤ 1000000) <|
need (-9223372036854775808 ≤ ((slotAt i_ k_) + 1) ∧ ((slotAt i_ k_) + 1) ≤ 9223372036854775807) <|
need ((([((re_ + ((256 * (rs_.size : Int)) % 18446744073709551616)) % 18446744073709551616), ra_, rb_] ++ r59) : List Int).length ≤ 1000000) <|
need (-1 ≤ ((slotAt i_ k_) + 1) ∧ ((slotAt i_ k_) + 1) ≤ 1000000) <|
(some (vwrites img ((slotAt i_ k_) + 1) l 0 ([((re_ + ((256 * (rs_.size : Int)) % 18446744073709551616)) % 18446744073709551616), ra_, rb_] ++ r59))).bind fun r75 =>
if r75.1 = 0 then ((some ((vwrite img r75.2 (slotAt i_ k_) q_).1)).bind fun r90 =>
some (r90, (vwrite img r75.2 (slotAt i_ k_) q_).2)) else (some (r75.1, r75.2))) else (some (r38, l))) else (some (1, l))))))))

theorem rsave_walk {img : List Int} {l : List (Int × Int)} {i_ : Int} {k_ : Int} {q_ : Int} {re_ : Int} {ra_ : Int} {rb_ : Int} {rs_ : ByteArray} {vb : Nat} {r : Int × List (Int × Int)} (B : Nat) (w : World) (hm : rsave_M img l i_ k_ q_ re_ ra_ rb_ rs_ = some r) : Spec Tryd.prog 47 #[(.pointer (some ⟨vb, 0, none⟩)), (.int .i64 i_), (.int .i64 k_), (.int .u64 q_), (.agg #[(.int .i64 re_), (.int .u64 ra_), (.int .u64 rb_), (.string rs_)])] B w [refA (ptr vb) img l] (fun v H' => v = (.int .i64 r.1) ∧ H' = [refA (ptr vb) img r.2]) := by
 refine spec_W Tryd.func47 rfl fun l0 hs => ?_
 unfold rsave_M at hm
 refine W.sr fun K1 hK1 => ?_
 refine zN [(.int .i64 re_), (.int .u64 ra_), (.int .u64 rb_), (.string rs_)] 46 hs fun b4 w2 hs3 => ?_
 refine zE 1 (hK1 _ _ ?_)
 refine W.seq fun K5 hK5 => ?_
 refine W.sr fun K6 hK6 => ?_
 refine zR 3 ?_
 rcases Bool.eq_false_or_eq_true (decide (i_ < 0)) with h7 | h7
 ·
  obtain ⟨h7p, hm⟩ := iY hm h7
  refine zS 16 h7 ?_
  refine zS 15 h7 ?_
  refine zE 24 (hK6 _ _ ?_)
  refine W.cond_true true (by kernel_rfl) rfl ?_
  refine W.sr fun K8 hK8 => ?_
  refine zE 1 (hK8 _ _ ?_)
  refine W.ret (ret_seq ?_)
  obtain rfl := some_inj hm
  have hs9 := St.f1 hs3
  have hs10 := St.tk1 hs9
  refine ret_of (.int .i64 1) (by kernel_rfl) ⟨_, ⟨rfl, rfl⟩, hs10⟩
 ·
  obtain ⟨h7p, hm⟩ := iN hm h7
  refine zS 16 h7 ?_
  refine zS 15 h7 ?_
  refine zR 4 ?_
  rcases Bool.eq_false_or_eq_true (decide (i_ ≥ 4)) with h11 | h11
  ·
   obtain ⟨h11p, hm⟩ := iY hm h11
   refine zS 20 h11 ?_
   refine zS 18 h11 ?_
   refine zS 19 h11 ?_
   refine zE 20 (hK6 _ _ ?_)
   refine W.cond_true true (by kernel_rfl) rfl ?_
   refine W.sr fun K12 hK12 => ?_
   refine zE 1 (hK12 _ _ ?_)
   refine W.ret (ret_seq ?_)
   obtain rfl := some_inj hm
   have hs13 := St.f1 hs3
   have hs14 := St.tk1 hs13
   refine ret_of (.int .i64 1) (by kernel_rfl) ⟨_, ⟨rfl, rfl⟩, hs14⟩
  ·
   obtain ⟨h11p, hm⟩ := iN hm h11
   refine zS 20 h11 ?_
   refine zS 18 h11 ?_
   refine zS 19 h11 ?_
   refine zR 4 ?_
   rcases Bool.eq_false_or_eq_true (decide (k_ < 0)) with h15 | h15
   ·
    obtain ⟨h15p, hm⟩ := iY hm h15
    refine zS 24 h15 ?_
    refine zS 22 h15 ?_
    refine zS 23 h15 ?_
    refine zE 16 (hK6 _ _ ?_)
    refine W.cond_true true (by kernel_rfl) rfl ?_
    refine W.sr fun K16 hK16 => ?_
    refine zE 1 (hK16 _ _ ?_)
    refine W.ret (ret_seq ?_)
    obtain rfl := some_inj hm
    have hs17 := St.f1 hs3
    have hs18 := St.tk1 hs17
    refine ret_of (.int .i64 1) (by kernel_rfl) ⟨_, ⟨rfl, rfl⟩, hs18⟩
   ·
    obtain ⟨h15p, hm⟩ := iN hm h15
    refine zS 24 h15 ?_
    refine zS 22 h15 ?_
    refine zS 23 h15 ?_
    refine zR 4 ?_
    rcases Bool.eq_false_or_eq_true (decide (k_ ≥ 4)) with h19 | h19
    ·
     obtain ⟨h19p, hm⟩ := iY hm h19
     refine zS 28 h19 ?_
     refine zS 26 h19 ?_
     refine zS 27 h19 ?_
     refine zE 12 (hK6 _ _ ?_)
     refine W.cond_true true (by kernel_rfl) rfl ?_
     refine W.sr fun K20 hK20 => ?_
     refine zE 1 (hK20 _ _ ?_)
     refine W.ret (ret_seq ?_)
     obtain rfl := some_inj hm
     have hs21 := St.f1 hs3
     have hs22 := St.tk1 hs21
     refine ret_of (.int .i64 1) (by kernel_rfl) ⟨_, ⟨rfl, rfl⟩, hs22⟩
    ·
     obtain ⟨h19p, hm⟩ := iN hm h19
     refine zS 28 h19 ?_
     refine zS 26 h19 ?_
     refine zS 27 h19 ?_
     refine zR 4 ?_
     rcases Bool.eq_false_or_eq_true (decide (q_ < 1)) with h23 | h23
     ·
      obtain ⟨h23p, hm⟩ := iY hm h23
      refine zS 32 h23 ?_
      refine zS 30 h23 ?_
      refine zS 31 h23 ?_
      refine zE 8 (hK6 _ _ ?_)
      refine W.cond_true true (by kernel_rfl) rfl ?_
      refine W.sr fun K24 hK24 => ?_
      refine zE 1 (hK24 _ _ ?_)
      refine W.ret (ret_seq ?_)
      obtain rfl := some_inj hm
      have hs25 := St.f1 hs3
      have hs26 := St.tk1 hs25
      refine ret_of (.int .i64 1) (by kernel_rfl) ⟨_, ⟨rfl, rfl⟩, hs26⟩
     ·
      obtain ⟨h23p, hm⟩ := iN hm h23
      refine zS 32 h23 ?_
      refine zS 30 h23 ?_
      refine zS 31 h23 ?_
      refine zR 4 ?_
      rcases Bool.eq_false_or_eq_true (decide (q_ > 1099511627776)) with h27 | h27
      ·
       obtain ⟨h27p, hm⟩ := iY hm h27
       refine zS 36 h27 ?_
       refine zS 34 h27 ?_
       refine zS 35 h27 ?_
       refine zE 4 (hK6 _ _ ?_)
       refine W.cond_true true (by kernel_rfl) rfl ?_
       refine W.sr fun K28 hK28 => ?_
       refine zE 1 (hK28 _ _ ?_)
       refine W.ret (ret_seq ?_)
       obtain rfl := some_inj hm
       have hs29 := St.f1 hs3
       have hs30 := St.tk1 hs29
       refine ret_of (.int .i64 1) (by kernel_rfl) ⟨_, ⟨rfl, rfl⟩, hs30⟩
      ·
       obtain ⟨h27p, hm⟩ := iN hm h27
       refine zS 36 h27 ?_
       refine zS 34 h27 ?_
       refine zS 35 h27 ?_
       refine ops_R (runs_loadAgg (ad := ⟨b4, 0, none⟩) (cs := [(.int .i64 re_), (.int .u64 ra_), (.int .u64 rb_), (.string rs_)]) (by kernel_rfl) (cells_sub (hs3.heapAt 0 rfl) rfl)) ?_
       obtain ⟨r31, h32, hm⟩ := bind_some hm
       refine zC00 hs3 (rmay10_walk (re_ := re_) (ra_ := ra_) (rb_ := rb_) (rs_ := rs_) (hm := h32) B _) fun w33 hs35 => ?_
       refine zE 2 (hK6 _ _ ?_)
       refine W.cond (!r31) (by kernel_rfl) (fun h36 => ?_) (fun h36 => ?_)
       rotate_left
       ·
        have h36p : r31 = true := (bnot_false h36)
        replace hm := ite_yes hm h36p
        refine W.skip ?_
        refine hK5 _ _ ?_
        refine W.sr fun K37 hK37 => ?_
        refine zR 3 ?_
        obtain ⟨r38, h39, hm⟩ := bind_some hm
        refine zC00 hs35 (rthere_walk (i_ := i_) (k_ := k_) (img := img) (l := l) (hv := (hs35.entAt 1 rfl refA_at)) (hm := h39) B _) fun w40 hs42 => ?_
        refine zE 1 (hK37 _ _ ?_)
        refine W.seq fun K43 hK43 => ?_
        refine W.sr fun K44 hK44 => ?_
        refine zE 2 (hK44 _ _ ?_)
        refine W.cond (!decide (r38 = 0)) (by kernel_rfl) (fun h45 => ?_) (fun h45 => ?_)
        rotate_left
        ·
         have h45p : r38 = 0 := of_decide_eq_true (bnot_false h45)
         replace hm := ite_yes hm h45p
         refine W.skip ?_
         refine hK43 _ _ ?_
         refine W.sr fun K46 hK46 => ?_
         refine zR 2 ?_
         refine zC00 hs42 (rslotat_spec (i_ := i_) (k_ := k_) B _) fun w47 hs49 => ?_
         refine zE 1 (hK46 _ _ ?_)
         refine W.sr fun K50 hK50 => ?_
         refine zR 1 ?_
         refine zL ⟨b4, 0, none⟩ (.int .i64 re_) (hs49.cellAt 0 rfl rfl) ?_
         obtain ⟨h51, hm⟩ := need_some hm
         refine zI _ (wrap_u64 h51.1 (Int.lt_of_le_of_lt h51.2 (by decide))) ?_
         refine zR 1 ?_
         refine zL ⟨b4, 3, none⟩ (.string rs_) (hs49.cellAt 0 rfl rfl) ?_
         refine zR 1 ?_
         obtain ⟨h52, hm⟩ := need_some hm
         refine zI _ (wrap_u64 h52.1 (Int.lt_of_le_of_lt h52.2 (by decide))) ?_
         refine ops_val (v := .int .u64 (IntKind.u64.wrap (256 * (rs_.size : Int)))) (v' := .int .u64 ((256 * (rs_.size : Int)) % 18446744073709551616)) (by kernel_rfl) (congrArg (Value.int .u64) (wrap_u64_mod _)) ?_
         refine ops_val (v := .int .u64 (IntKind.u64.wrap (re_ + ((256 * (rs_.size : Int)) % 18446744073709551616)))) (v' := .int .u64 ((re_ + ((256 * (rs_.size : Int)) % 18446744073709551616)) % 18446744073709551616)) (by kernel_rfl) (congrArg (Value.int .u64) (wrap_u64_mod _)) ?_
         refine zR 1 ?_
         refine zL ⟨b4, 1, none⟩ (.int .u64 ra_) (hs49.cellAt 0 rfl rfl) ?_
         refine zR 1 ?_
         refine zL ⟨b4, 2, none⟩ (.int .u64 rb_) (hs49.cellAt 0 rfl rfl) ?_
         refine ops_new (fun b => .slice (some ⟨b, 0, none⟩) 3 3) (.cells [(.int .u64 ((re_ + ((256 * (rs_.size : Int)) % 18446744073709551616)) % 18446744073709551616)), (.int .u64 ra_), (.int .u64 rb_)].toArray 38 (0, 0)) hs49 (by kernel_rfl) (fun b55 w53 hs54 => ?_)
         refine zE 1 (hK50 _ _ ?_)
         refine W.sr fun K56 hK56 => ?_
         refine zR 2 ?_
         refine zL ⟨b4, 3, none⟩ (.string rs_) (hs54.cellAt 1 rfl rfl) ?_
         obtain ⟨r59, h60, hm⟩ := bind_some hm
         refine ops_call0 hs54 (by kernel_rfl) (rpack_walk (hm := h60) B _) ?_
         rintro _ _ w61 ⟨a57, c58, rfl, rfl⟩ hs62
         have hs63 := St.ap1 hs62
         have hs64 := St.f1 hs63
         have hs65 : St B w l0 w61 [kU64.row (some ⟨b55, 0, none⟩) 3 ([((re_ + ((256 * (rs_.size : Int)) % 18446744073709551616)) % 18446744073709551616), ra_, rb_]), kU64.row a57 c58 r59, blk b4 (.cells [(.int .i64 re_), (.int .u64 ra_), (.int .u64 rb_), (.string rs_)].toArray 46 (0, 0)), refA (ptr vb) img l] := St.kblk kU64 [((re_ + ((256 * (rs_.size : Int)) % 18446744073709551616)) % 18446744073709551616), ra_, rb_] hs64 rfl rfl (by simp only [List.length_cons, List.length_nil]; decide)
         obtain ⟨h70, hm⟩ := need_some hm
         refine ops_appendK kU64 (bytes := 8) (a' := a57) (c' := c58) (l := [((re_ + ((256 * (rs_.size : Int)) % 18446744073709551616)) % 18446744073709551616), ra_, rb_]) (m := r59) hs65 (by kernel_rfl) (St.capnil kU64 hs65 1 rfl) (St.kcells kU64 hs65 1 rfl) (by unfold maxLen; (try simp only [List.length_cons, List.length_nil]); omega) (by (try simp only [List.length_cons, List.length_nil]); omega) (fun a66 c67 w68 hs69 => ?_)
         refine zE 1 (hK56 _ _ ?_)
         refine W.sr fun K71 hK71 => ?_
         refine zR 2 ?_
         obtain ⟨h72, hm⟩ := need_some hm
         refine zI _ (wrap_i64 h72.1 h72.2) ?_
         refine zR 1 ?_
         obtain ⟨h73, hm⟩ := need_some hm
         obtain ⟨h74, hm⟩ := need_some hm
         obtain ⟨r75, h76, hm⟩ := bind_some hm
         replace h76 := some_inj h76
         have hs79 := St.f3 hs69
         refine ops_call2 hs79 (by kernel_rfl) (rall_spec (b := vb) (img := img) (l := l) (at_ := ((slotAt i_ k_) + 1)) (la := a66) (lc := c67) (ws := ([((re_ + ((256 * (rs_.size : Int)) % 18446744073709551616)) % 18446744073709551616), ra_, rb_] ++ r59)) (n := ([((re_ + ((256 * (rs_.size : Int)) % 18446744073709551616)) % 18446744073709551616), ra_, rb_] ++ r59).length) (hn := rfl) (hsz := h73) (hat := h74) B _) ?_
         rintro _ _ w80 ⟨hv77, hH78⟩ hs81
         rw [h76] at hv77
         try rw [h76] at hH78
         subst hv77 hH78
         have hs82 := St.ap1 hs81
         refine zE 1 (hK71 _ _ ?_)
         refine W.seq fun K83 hK83 => ?_
         refine W.sr fun K84 hK84 => ?_
         refine zE 2 (hK84 _ _ ?_)
         refine W.cond (!decide (r75.1 = 0)) (by kernel_rfl) (fun h85 => ?_) (fun h85 => ?_)
         rotate_left
         ·
          have h85p : r75.1 = 0 := of_decide_eq_true (bnot_false h85)
          replace hm := ite_yes hm h85p
          refine W.skip ?_
          refine hK83 _ _ ?_
          refine W.sr fun K86 hK86 => ?_
          refine zR 3 ?_
          refine zC11 hs82 (rset_spec (b := vb) (img := img) (l := r75.2) (at_ := (slotAt i_ k_)) (x_ := q_) B _) fun w87 hs89 => ?_
          refine zR 1 ?_
          obtain ⟨r90, h91, hm⟩ := bind_some hm
          replace h91 := some_inj h91
          refine ops_set 10 (v := .int .i64 r90) (Eq.trans (by kernel_rfl) (congrArg (Value.int .i64) h91)) ?_
          refine zD (hK86 _ _ ?_)
          refine W.ret ?_
          obtain rfl := some_inj hm
          have hs92 := St.tk1 hs89
          refine ret_of (.int .i64 r90) (by kernel_rfl) ⟨_, ⟨rfl, rfl⟩, hs92⟩
         ·
          have h85p : ¬ (r75.1 = 0) := of_decide_eq_false (bnot_true h85)
          replace hm := ite_no hm h85p
          refine W.sr fun K93 hK93 => ?_
          refine zE 2 (hK93 _ _ ?_)
          refine W.ret (ret_seq ?_)
          obtain rfl := some_inj hm
          have hs94 := St.tk1 hs82
          refine ret_of (.int .i64 r75.1) (by kernel_rfl) ⟨_, ⟨rfl, rfl⟩, hs94⟩
        ·
         have h45p : ¬ (r38 = 0) := of_decide_eq_false (bnot_true h45)
         replace hm := ite_no hm h45p
         refine W.sr fun K95 hK95 => ?_
         refine zE 2 (hK95 _ _ ?_)
         refine W.ret (ret_seq ?_)
         obtain rfl := some_inj hm
         have hs96 := St.f1 hs42
         have hs97 := St.tk1 hs96
         refine ret_of (.int .i64 r38) (by kernel_rfl) ⟨_, ⟨rfl, rfl⟩, hs97⟩
       ·
        have h36p : ¬ (r31 = true) := ne_true_of_eq_false (bnot_true h36)
        replace hm := ite_no hm h36p
        refine W.sr fun K98 hK98 => ?_
        refine zE 1 (hK98 _ _ ?_)
        refine W.ret (ret_seq ?_)
        obtain rfl := some_inj hm
        have hs99 := St.f1 hs35
        have hs100 := St.tk1 hs99
        refine ret_of (.int .i64 1) (by kernel_rfl) ⟨_, ⟨rfl, rfl⟩, hs100⟩

end Go.Proofs.YthimamnblklkbaaDoor

namespace Go.Proofs.YthimamnblklkbaaDoor
open Go Go.RowKit
set_option linter.unusedVariables false
set_option linter.unusedSimpArgs false

variable {img : List Int} {l : List (Int × Int)}
theorem or_byte {n b : Int} (hn : 0 ≤ n ∧ n < 72057594037927936) (hb : 0 ≤ b ∧ b < 256) : bits .or .u64 (shlK .u64 n 8) b = b + 256 * n := by
  have e : shlK .u64 n 8 = 256 * n := by
    unfold shlK
    show IntKind.u64.wrap (n * 2 ^ (min (8 : Int).toNat 64)) = _
    rw [show (2 : Int) ^ (min (8 : Int).toNat 64) = 256 by decide, wrap_u64 (by omega) (by omega)]
    omega
  rw [e]
  have hx : U64 (256 * n) := by unfold U64; omega
  have hy : U64 b := by unfold U64; omega
  refine bitI_ext (bits_u64 hx hy) (by unfold U64; omega) fun j _ => ?_
  rw [bitI_or hx hy]
  unfold bitI
  obtain ⟨a, rfl⟩ := Int.eq_ofNat_of_zero_le hn.1
  obtain ⟨c, rfl⟩ := Int.eq_ofNat_of_zero_le hb.1
  rw [show (256 * (a : Int)).toNat = a <<< 8 by rw [Nat.shiftLeft_eq]; omega, show ((c : Int) + 256 * (a : Int)).toNat = a <<< 8 + c by rw [Nat.shiftLeft_eq]; omega,
    Nat.shiftLeft_add_eq_or_of_lt (show c < 2 ^ 8 by omega), Nat.testBit_or, Int.toNat_natCast]
theorem opack_eq {s : ByteArray} (hs : s.size ≤ 1000000) : opack_M s = some (packF s) := by
  unfold opack_M
  refine need_of hs ?_
  have hlen := strNums_len s
  have inner : ∀ (k : Nat) (c : List Int → Option (List Int)) (q : List Int), 8 * k < s.size → ∀ (m j : Nat), j + m = partN s.size k →
      rounds (fun k_ c_ s_ => opack_R108 s k k_ c_ s_) (fun s_ => opack_D108 c q s_) m j (valB ((((strNums s).drop (8 * k)).take (partN s.size k)).drop (partN s.size k - j))) =
      opack_D108 c q (valB (((strNums s).drop (8 * k)).take (partN s.size k))) := by
    intro k c q hk m
    have hp := part_pos hk
    have hb : Byt (((strNums s).drop (8 * k)).take (partN s.size k)) := ((byt_str s).drop _).take _
    have hl : (((strNums s).drop (8 * k)).take (partN s.size k)).length = partN s.size k := by simp only [List.length_take, List.length_drop, hlen]; omega
    induction m with
    | zero =>
      intro j hj
      rw [show partN s.size k - j = 0 by omega, List.drop_zero]
      rfl
    | succ m ih =>
      intro j hj
      show opack_R108 s k j _ _ = _
      unfold opack_R108
      simp only [Option.bind]
      have e1 : ((strNums s).drop (8 * k)).getD (partN s.size k - 1 - j) 0 = (((strNums s).drop (8 * k)).take (partN s.size k)).getD (partN s.size k - 1 - j) 0 := by
        simp only [List.getD_eq_getElem?_getD, List.getElem?_take]
        rw [if_pos (by omega)]
      rw [e1]
      generalize hX : ((strNums s).drop (8 * k)).take (partN s.size k) = X at *
      have hg := hb.getD (partN s.size k - 1 - j)
      refine need_of (by omega) ?_
      have hr := valB_range (hb.drop (partN s.size k - j))
      have hlt : (X.drop (partN s.size k - j)).length = j := by rw [List.length_drop]; omega
      rw [hlt] at hr
      have h7 : (256 : Int) ^ j ≤ 72057594037927936 := by
        have : j = 0 ∨ j = 1 ∨ j = 2 ∨ j = 3 ∨ j = 4 ∨ j = 5 ∨ j = 6 ∨ j = 7 := by omega
        rcases this with rfl | rfl | rfl | rfl | rfl | rfl | rfl | rfl <;> decide
      rw [or_byte (by omega) hg]
      have e2 : X.drop (partN s.size k - (j + 1)) = X.getD (partN s.size k - 1 - j) 0 :: X.drop (partN s.size k - j) := by
        have hlt2 : partN s.size k - (j + 1) < X.length := by omega
        rw [List.drop_eq_getElem_cons hlt2, show partN s.size k - (j + 1) + 1 = partN s.size k - j by omega, show partN s.size k - 1 - j = partN s.size k - (j + 1) by omega]
        simp [List.getD, hlt2]
      have := ih (j + 1) (by omega)
      rw [e2, valB] at this
      exact this
  have outer : ∀ (m k : Nat), k + m = (s.size + 7) / 8 → rounds (fun k_ c_ s_ => opack_R27 s k_ c_ s_) (fun s_ => opack_D27 s_) m k ((packF s).take k) = some (packF s) := by
    intro m
    have hpl := packF_len s
    induction m with
    | zero =>
      intro k hk
      rw [List.take_of_length_le (by omega)]
      rfl
    | succ m ih =>
      intro k hk
      have h8 : 8 * k < s.size := by omega
      have := inner k (rounds (fun k_ c_ s_ => opack_R27 s k_ c_ s_) (fun s_ => opack_D27 s_) m (k + 1)) ((packF s).take k) h8 (partN s.size k) 0 (by omega)
      rw [Nat.sub_zero, List.drop_of_length_le (by simp only [List.length_take]; omega)] at this
      refine Eq.trans (show _ = opack_D108 (rounds (fun k_ c_ s_ => opack_R27 s k_ c_ s_) (fun s_ => opack_D27 s_) m (k + 1)) ((packF s).take k) (valB (((strNums s).drop (8 * k)).take (partN s.size k))) from this) ?_
      unfold opack_D108 opack_J3
      refine need_of (by simp only [List.length_take]; omega) ?_
      have e : (packF s).take k ++ [valB (((strNums s).drop (8 * k)).take (partN s.size k))] = (packF s).take (k + 1) := by
        rw [take_snoc 0 (by omega), packF_get s (by omega)]
        congr 3
        unfold partN
        split
        · rw [List.take_of_length_le (by simp only [List.length_drop]; omega), List.take_of_length_le (by simp only [List.length_drop]; omega)]
        · rfl
      rw [e]
      exact ih (k + 1) (by omega)
  exact outer _ 0 (by omega)

def packN (xs : List Int) : List Int := (List.range ((xs.length + 7) / 8)).map fun (q : Nat) => valB ((xs.drop (8 * q)).take 8)
theorem packN_str (s : ByteArray) : packN (strNums s) = packF s := by unfold packN packF; rw [strNums_len]
theorem packN_len (xs : List Int) : (packN xs).length = (xs.length + 7) / 8 := by unfold packN; simp
theorem packN_get (xs : List Int) {q : Nat} (h : q < (xs.length + 7) / 8) : (packN xs).getD q 0 = valB ((xs.drop (8 * q)).take 8) := by
  unfold packN
  simp [List.getD, h]
def opened8 (xs : List Int) : List Int := if xs.length % 8 = 0 then packN xs ++ [0] else packN xs
theorem opened8_len (xs : List Int) : (opened8 xs).length = (xs.length + 8) / 8 := by
  unfold opened8
  split
  · rw [List.length_append, packN_len]; simp only [List.length_cons, List.length_nil]; omega
  · rw [packN_len]; omega
theorem opened8_last (xs : List Int) : (opened8 xs).getD (xs.length / 8) 0 = valB (xs.drop (8 * (xs.length / 8))) := by
  unfold opened8
  split
  · rename_i h
    rw [List.drop_of_length_le (by omega), List.getD_eq_getElem?_getD, List.getElem?_append_right (by rw [packN_len]; omega), packN_len, show xs.length / 8 - (xs.length + 7) / 8 = 0 by omega]
    rfl
  · rw [packN_get _ (by omega), List.take_of_length_le (by rw [List.length_drop]; omega)]
theorem opened8_get (xs : List Int) {q : Nat} (h : q < xs.length / 8) : (opened8 xs).getD q 0 = valB ((xs.drop (8 * q)).take 8) := by
  unfold opened8
  split
  · rw [List.getD_eq_getElem?_getD, List.getElem?_append_left (by rw [packN_len]; omega), ← List.getD_eq_getElem?_getD, packN_get _ (by omega)]
  · rw [packN_get _ (by omega)]
theorem packN_snoc (xs : List Int) (b : Int) : packN (xs ++ [b]) = (opened8 xs).set (xs.length / 8) ((opened8 xs).getD (xs.length / 8) 0 + b * 256 ^ (xs.length % 8)) := by
  have hl := opened8_len xs
  refine eq_of_getD 0 (by rw [List.length_set, packN_len, hl, List.length_append]; rfl) fun j hj => ?_
  rw [packN_len, List.length_append, List.length_cons, List.length_nil] at hj
  rw [packN_get _ (by rw [List.length_append, List.length_cons, List.length_nil]; exact hj), getD_set]
  by_cases h : xs.length / 8 = j
  · rw [if_pos ⟨h, by omega⟩, opened8_last, h, List.drop_append_of_le_length (by omega), List.take_of_length_le (by simp only [List.length_append, List.length_drop, List.length_cons, List.length_nil]; omega), valB_snoc, List.length_drop,
      show xs.length - 8 * j = xs.length % 8 by omega]
  · rw [if_neg (by omega), opened8_get _ (by omega), List.drop_append_of_le_length (by omega), List.take_append_of_le_length (by rw [List.length_drop]; omega)]
theorem sbyte_nums (s : ByteArray) {k : Int} (h : 0 ≤ k ∧ k < (s.size : Int)) : sbyte s k = (strNums s).getD k.toNat 0 := by
  have hk : k.toNat < s.size := by omega
  unfold sbyte strNums
  rw [getElem?_pos s k.toNat hk, Option.getD_some]
  have hk2 : k.toNat < s.data.size := hk
  simp only [List.getD_eq_getElem?_getD, List.getElem?_map, Array.getElem?_toList]
  rw [Array.getElem?_eq_getElem hk2]
  rfl
theorem rpack_eq {s : ByteArray} (hs : s.size ≤ 1000000) : rpack_M s = some (packF s) := by
  have hlen := strNums_len s
  unfold rpack_M
  refine iter_run (fun t => t.2.1 = t.1.length ∧ 0 ≤ t.2.2 ∧ t.2.2 ≤ (s.size : Int) ∧ t.1 = packN ((strNums s).take t.2.2.toNat)) (fun t => ((s.size : Int) - t.2.2).toNat) ?_ _ _ ⟨rfl, by simp, by simp, by simp [packN]⟩ (fuel_lt (by simp only; omega))
  rintro k ⟨q, n, p⟩ ⟨h1, h2, h3, h4⟩ ih
  simp only at h1 h2 h3 h4 ih
  subst h1 h4
  unfold rpack_B0
  simp only
  have htl : ((strNums s).take p.toNat).length = p.toNat := by rw [List.length_take]; omega
  by_cases hp : p < (s.size : Int)
  · rw [if_pos hp]
    have J : rpack_J2 s k p (opened8 ((strNums s).take p.toNat)) (opened8 ((strNums s).take p.toNat)).length = some (packF s) := by
      unfold rpack_J2
      have hb := sbyte_range s p
      have hol := opened8_len ((strNums s).take p.toNat)
      rw [htl] at hol
      rw [quo8 h2, rem8 h2]
      iterate 12 refine need_of (by omega) ?_
      refine ih _ ⟨by simp only [List.length_set], by simp only; omega, by simp only; omega, ?_⟩ (by simp only; omega)
      simp only
      have hps := packN_snoc ((strNums s).take p.toNat) ((strNums s).getD p.toNat 0)
      have hlast := opened8_last ((strNums s).take p.toNat)
      rw [← take_snoc 0 (by omega), htl] at hps
      rw [htl] at hlast
      rw [show (p + 1).toNat = p.toNat + 1 by omega, hps, show (p / 8).toNat = p.toNat / 8 by omega, show (8 * (p % 8)) = 8 * ((p.toNat % 8 : Nat) : Int) by omega, sbyte_nums s ⟨h2, hp⟩,
        shl_bytes ((byt_str s).getD _) (by omega)]
      congr 1
      have hby : Byt (((strNums s).take p.toNat).drop (8 * (p.toNat / 8)) ++ [(strNums s).getD p.toNat 0]) := by
        intro x hx
        rcases List.mem_append.1 hx with h | h
        · exact (((byt_str s).take _).drop _) x h
        · simp only [List.mem_singleton] at h
          subst h
          exact (byt_str s).getD _
      have hr := valB_u64 hby (by simp only [List.length_append, List.length_drop, htl, List.length_cons, List.length_nil]; omega)
      rw [valB_snoc, List.length_drop, htl, show p.toNat - 8 * (p.toNat / 8) = p.toNat % 8 by omega] at hr
      rw [hlast]
      unfold U64 at hr
      omega
    by_cases h0 : p.tmod 8 = 0
    · rw [if_pos h0]
      rw [rem8 h2] at h0
      have e : opened8 ((strNums s).take p.toNat) = packN ((strNums s).take p.toNat) ++ [0] := by unfold opened8; rw [if_pos (by omega)]
      rw [e] at J
      have := packN_len ((strNums s).take p.toNat)
      exact need_of (by omega) (need_of (by trivial) J)
    · rw [if_neg h0]
      rw [rem8 h2] at h0
      have e : opened8 ((strNums s).take p.toNat) = packN ((strNums s).take p.toNat) := by unfold opened8; rw [if_neg (by omega)]
      rw [e] at J
      exact J
  · rw [if_neg hp, List.take_of_length_le (by omega), packN_str]
    exact need_of (by trivial) rfl

def mayF (re : Int) (rs : ByteArray) : Bool := decide (re ≥ 0 ∧ re ≤ 24 ∧ (rs.size : Int) ≤ 64)
theorem mayF_true {re : Int} {rs : ByteArray} : mayF re rs = true ↔ re ≥ 0 ∧ re ≤ 24 ∧ (rs.size : Int) ≤ 64 := by unfold mayF; exact decide_eq_true_iff
theorem smay_eq (re : Int) (rs : ByteArray) : smay10_M re rs = some (mayF re rs) := by
  unfold smay10_M mayF
  by_cases h1 : re ≥ 0
  · by_cases h2 : re ≤ 24
    · rw [if_pos h1, if_pos h2]; simp [h1, h2]
    · rw [if_pos h1, if_neg h2]; simp [h2]
  · rw [if_neg h1]; simp [h1]
theorem rmay_eq (re : Int) (rs : ByteArray) : rmay10_M re rs = some (mayF re rs) := (show rmay10_M re rs = smay10_M re rs from rfl).trans (smay_eq re rs)
def saveA (at_ A ra rb : Int) (ws : List Int) : List (Int × Int) := [(at_ + 1, A), (at_ + 2, ra), (at_ + 3, rb)] ++ (List.range ws.length).map fun (j : Nat) => (at_ + 4 + (j : Int), ws.getD j 0)
def saveL (at_ q re ra rb : Int) (rs : ByteArray) : List (Int × Int) := saveA at_ (re + 256 * (rs.size : Int)) ra rb (packF rs) ++ [(at_, q)]
def saveF (img : List Int) (l : List (Int × Int)) (i k q re ra rb : Int) (rs : ByteArray) : Int × List (Int × Int) :=
  if q < 1 ∨ q > 1099511627776 ∨ ¬ mayF re rs = true then (1, l) else if thereF img i k = 0 then vsets img l (saveL (slotAt i k) q re ra rb rs) else (thereF img i k, l)
theorem thereF_cases (img : List Int) (i k : Int) : thereF img i k = 0 ∨ thereF img i k = 1 ∨ thereF img i k = 8 := by
  unfold thereF
  repeat' split
  all_goals omega
theorem vsets_one (img : List Int) (l : List (Int × Int)) (a x : Int) : vsets img l [(a, x)] = vwrite img l a x := by
  rw [vsets_cons]
  split
  · rename_i h
    exact Prod.ext h.symm rfl
  · rfl
theorem ssave_eq (img : List Int) (l : List (Int × Int)) (i k q re ra rb : Int) (rs : ByteArray) : ssave_M img l i k q re ra rb rs = some (saveF img l i k q re ra rb rs) := by
  unfold ssave_M saveF
  obtain ⟨a, e, ha⟩ := sfind_eq img i k
  have hc := thereF_cases img i k
  rw [e]
  simp only [Option.bind]
  rw [if_neg (show ¬ thereF img i k = 2 by omega)]
  have J1 : ssave_J1 img l k q re ra rb rs (a, thereF img i k) true = some (1, l) := by unfold ssave_J1; rw [if_pos rfl]
  by_cases h1 : q < 1
  · rw [if_pos h1, decide_eq_true h1, J1, if_pos (Or.inl h1)]
  · rw [if_neg h1]
    by_cases h2 : q > 1099511627776
    · rw [if_pos h2, decide_eq_true h2, J1, if_pos (Or.inr (Or.inl h2))]
    · rw [if_neg h2, smay_eq]
      simp only
      cases hm : mayF re rs with
      | false => rw [if_pos (Or.inr (Or.inr (by simp)))]; exact J1
      | true =>
        rw [if_neg (show ¬ (q < 1 ∨ q > 1099511627776 ∨ ¬ true = true) by simp; omega)]
        have hmay := mayF_true.1 hm
        unfold ssave_J1
        rw [if_neg (by decide)]
        by_cases h : thereF img i k = 0
        · rw [if_pos h, if_pos h]
          have ht := thereF_zero h
          simp only [ha h]
          refine need_of (by omega) (need_of (by omega) (need_of (by omega) (need_of (by omega) (need_of (by omega) ?_))))
          rw [opack_eq (by omega)]
          simp only [Option.bind]
          have hpl := packF_len rs
          have hA : (re + 256 * (rs.size : Int) % 18446744073709551616) % 18446744073709551616 = re + 256 * (rs.size : Int) := by omega
          rw [hA]
          refine iter_run (fun t => 0 ≤ t.2 ∧ t.2 ≤ ((packF rs).length : Int) ∧ t.1 = saveA (slotAt i k) (re + 256 * (rs.size : Int)) ra rb ((packF rs).take t.2.toNat)) (fun t => (((packF rs).length : Int) - t.2).toNat) ?_ _ _ ⟨by simp, by simp, by simp [saveA]⟩ (fuel_lt (by simp only; omega))
          rintro c ⟨xs, p⟩ ⟨p1, p2, p3⟩ ih
          simp only at p1 p2 p3 ih
          subst p3
          unfold ssave_B0
          simp only
          have hsl : (saveA (slotAt i k) (re + 256 * (rs.size : Int)) ra rb ((packF rs).take p.toNat)).length = 3 + p.toNat := by
            unfold saveA
            simp only [List.length_append, List.length_cons, List.length_nil, List.length_map, List.length_range, List.length_take]
            omega
          by_cases hp : p < ((packF rs).length : Int)
          · rw [if_pos hp]
            refine need_of (by omega) (need_of (by omega) (need_of (by omega) (need_of (by omega) (need_of (by omega) ?_))))
            refine ih _ ⟨by simp only; omega, by simp only; omega, ?_⟩ (by simp only; omega)
            simp only
            unfold saveA
            have htl : ((packF rs).take (p.toNat + 1)).length = p.toNat + 1 := by rw [List.length_take]; omega
            have htl0 : ((packF rs).take p.toNat).length = p.toNat := by rw [List.length_take]; omega
            rw [show (p + 1).toNat = p.toNat + 1 by omega, htl, htl0, List.range_succ, List.map_append, List.append_assoc]
            congr 2
            · refine List.map_congr_left fun j hj => ?_
              have := List.mem_range.1 hj
              simp only [List.getD_eq_getElem?_getD, List.getElem?_take, if_pos this, if_pos (show j < p.toNat + 1 by omega)]
            · simp only [List.map_cons, List.map_nil, List.getD_eq_getElem?_getD, List.getElem?_take, if_pos (show p.toNat < p.toNat + 1 by omega)]
              congr 2
              omega
          · rw [if_neg hp]
            have e2 : (packF rs).take p.toNat = packF rs := List.take_of_length_le (by omega)
            rw [e2] at hsl ⊢
            unfold ssave_J2
            refine need_of (by omega) ?_
            simp only [Option.bind]
            exact need_of (by simp only [List.length_append, List.length_cons, List.length_nil]; omega) rfl
        · rw [if_neg h, if_neg h]
theorem saveA_vwrites (img : List Int) (l : List (Int × Int)) (at_ A ra rb : Int) (ws : List Int) : vwrites img (at_ + 1) l 0 ([A, ra, rb] ++ ws) = vsets img l (saveA at_ A ra rb ws) := by
  rw [vwrites_vsets]
  congr 1
  unfold saveA
  simp only [List.cons_append, List.nil_append, List.length_cons, List.range_succ_eq_map, List.map_cons, List.map_map]
  refine congr (congrArg _ (by simp)) (congr (congrArg _ ?_) (congr (congrArg _ ?_) ?_))
  · simp only [List.getD_cons_succ, List.getD_cons_zero, Prod.mk.injEq, and_true]; omega
  · simp only [List.getD_cons_succ, List.getD_cons_zero, Prod.mk.injEq, and_true]; omega
  · refine List.map_congr_left fun j _ => ?_
    simp only [Function.comp, Nat.succ_eq_add_one, List.getD_cons_succ, Prod.mk.injEq, and_true]
    omega
theorem rsave_eq (img : List Int) (l : List (Int × Int)) (i k q re ra rb : Int) (rs : ByteArray) : rsave_M img l i k q re ra rb rs = some (saveF img l i k q re ra rb rs) := by
  unfold rsave_M saveF
  have hbad : (i < 0 ∨ i ≥ 4 ∨ k < 0 ∨ k ≥ 4) → thereF img i k = 1 := by
    intro h
    unfold thereF
    repeat' split
    all_goals omega
  have hb : (i < 0 ∨ i ≥ 4 ∨ k < 0 ∨ k ≥ 4) → (if q < 1 ∨ q > 1099511627776 ∨ ¬ mayF re rs = true then (1, l) else if thereF img i k = 0 then vsets img l (saveL (slotAt i k) q re ra rb rs) else (thereF img i k, l)) = (1, l) := by
    intro h
    rw [hbad h]
    split
    · rfl
    · rfl
  by_cases a1 : i < 0
  · rw [if_pos a1, hb (by omega)]
  rw [if_neg a1]
  by_cases a2 : i ≥ 4
  · rw [if_pos a2, hb (by omega)]
  rw [if_neg a2]
  by_cases a3 : k < 0
  · rw [if_pos a3, hb (by omega)]
  rw [if_neg a3]
  by_cases a4 : k ≥ 4
  · rw [if_pos a4, hb (by omega)]
  rw [if_neg a4]
  by_cases a5 : q < 1
  · rw [if_pos a5, if_pos (Or.inl a5)]
  rw [if_neg a5]
  by_cases a6 : q > 1099511627776
  · rw [if_pos a6, if_pos (Or.inr (Or.inl a6))]
  rw [if_neg a6, rmay_eq]
  simp only [Option.bind]
  cases hm : mayF re rs with
  | false => rw [if_neg (by decide), if_pos (Or.inr (Or.inr (by simp)))]
  | true =>
    rw [if_pos rfl, if_neg (show ¬ (q < 1 ∨ q > 1099511627776 ∨ ¬ true = true) by simp; omega), rthere_eq]
    have hmay := mayF_true.1 hm
    simp only
    by_cases h : thereF img i k = 0
    · rw [if_pos h, if_pos h]
      have ht := thereF_zero h
      have hpl := packF_len rs
      refine need_of (by omega) (need_of (by omega) ?_)
      rw [rpack_eq (by omega)]
      simp only
      refine need_of (by omega) (need_of (by omega) (need_of (by simp only [List.length_append, List.length_cons, List.length_nil]; omega) (need_of (by omega) ?_)))
      have hA : (re + 256 * (rs.size : Int) % 18446744073709551616) % 18446744073709551616 = re + 256 * (rs.size : Int) := by omega
      rw [hA, saveA_vwrites]
      unfold saveL
      rw [vsets_append]
      generalize vsets img l (saveA (slotAt i k) (re + 256 * (rs.size : Int)) ra rb (packF rs)) = r
      by_cases h2 : r.1 = 0
      · rw [if_pos h2, if_pos h2, vsets_one]
      · rw [if_neg h2, if_neg h2]
    · rw [if_neg h, if_neg h]
end Go.Proofs.YthimamnblklkbaaDoor

set_option linter.unusedVariables false
set_option maxRecDepth 20000
set_option maxHeartbeats 2000000
namespace Go.Proofs.YthimamnblklkbaaDoor
open Go Go.RowKit
set_option linter.unusedSimpArgs false
set_option linter.unusedVariables false

def image_J1 (gw : Int) (gi : Int) (gb : Int) (cut_ : Int) (q11 : List Int) : Option (List Int) :=
 need (-9223372036854775808 ≤ cut_ ∧ cut_ ≤ 9223372036854775807) <|
need (-9223372036854775808 ≤ ((((fmtW gw gi gb).length) : Int) - (mn cut_ (((fmtW gw gi gb).length) : Int))) ∧ ((((fmtW gw gi gb).length) : Int) - (mn cut_ (((fmtW gw gi gb).length) : Int))) ≤ 9223372036854775807) <|
need (0 ≤ ((((fmtW gw gi gb).length) : Int) - (mn cut_ (((fmtW gw gi gb).length) : Int))) ∧ ((((fmtW gw gi gb).length) : Int) - (mn cut_ (((fmtW gw gi gb).length) : Int))) ≤ (((fmtW gw gi gb).length) : Int)) <|
need ((fmtW gw gi gb).length = q11.length) <|
some (q11.take (((((fmtW gw gi gb).length) : Int) - (mn cut_ (((fmtW gw gi gb).length) : Int))).toNat))

def image_B0 (gw : Int) (gi : Int) (gb : Int) (ts : List TTn) (cut_ : Int) (k25 : ((List Int) × Int) → Option (List Int)) (q23 : List Int) (p24 : Int) : Option (List Int) :=
 if p24 < (ts.length : Int) then (if (((fmtW gw gi gb).length) : Int) > 0 then (need (0 ≤ p24 ∧ p24 < (ts.length : Int)) <|
need (-9223372036854775808 ≤ ((ts.getD p24.toNat dTn).c0) ∧ ((ts.getD p24.toNat dTn).c0) ≤ 9223372036854775807) <|
need (¬ ((((fmtW gw gi gb).length) : Int) = 0)) <|
need (0 ≤ p24 ∧ p24 < (ts.length : Int)) <|
need (0 ≤ (((ts.getD p24.toNat dTn).c0).tmod (((fmtW gw gi gb).length) : Int)) ∧ (((ts.getD p24.toNat dTn).c0).tmod (((fmtW gw gi gb).length) : Int)) < (((fmtW gw gi gb).length) : Int)) <|
need ((((ts.getD p24.toNat dTn).c0).tmod (((fmtW gw gi gb).length) : Int)).toNat < q23.length) <|
need (-9223372036854775808 ≤ (p24 + 1) ∧ (p24 + 1) ≤ 9223372036854775807) <|
k25 ((q23.set ((((ts.getD p24.toNat dTn).c0).tmod (((fmtW gw gi gb).length) : Int)).toNat) ((ts.getD p24.toNat dTn).c1)), (p24 + 1))) else (image_J1 gw gi gb cut_ q23)) else (image_J1 gw gi gb cut_ q23)

def image_M (gw : Int) (gi : Int) (gb : Int) (ts : List TTn) (cut_ : Int) : Option (List Int) :=
 iter (fun k_ s_ => image_B0 gw gi gb ts cut_ k_ s_.1 s_.2) FUEL ((fmtW gw gi gb), 0)

theorem image_walk {gw : Int} {gi : Int} {gb : Int} {ts : List TTn} {cut_ : Int} {ta : Option Addr} {tc : Nat} {r : List Int} (B : Nat) (w : World) (ht : CellsAt ta (kTn.cells ts) w) (hm : image_M gw gi gb ts cut_ = some r) : Spec Tryd.prog 38 #[(.agg #[(.int .i64 gw), (.int .i64 gi), (.int .i64 gb)]), (.slice ta ts.length tc), (.int .u16 cut_)] B w [] (fun v H' => ∃ a' c', v = .slice a' r.length c' ∧ H' = [kU64.row a' c' r]) := by
 refine spec_Q Tryd.func38 rfl fun hs => ?_
 unfold image_M at hm
 refine W.sr fun K1 hK1 => ?_
 refine zN [(.int .i64 gw), (.int .i64 gi), (.int .i64 gb)] 63 hs fun b4 w2 hs3 => ?_
 refine zE 1 (hK1 _ _ ?_)
 refine W.sr fun K5 hK5 => ?_
 refine ops_R (runs_loadAgg (ad := ⟨b4, 0, none⟩) (cs := [(.int .i64 gw), (.int .i64 gi), (.int .i64 gb)]) (by kernel_rfl) (cells_sub (hs3.heapAt 0 rfl) rfl)) ?_
 refine ops_call0 hs3 (by kernel_rfl) (format_spec (gw := gw) (gi := gi) (gb := gb) B _) ?_
 rintro _ _ w8 ⟨a6, c7, rfl, rfl⟩ hs9
 have hs10 := St.ap1 hs9
 refine zE 1 (hK5 _ _ ?_)
 refine W.seq_join (fun s_ w_ => ∃ (q11 : List Int), (∃ us, s_ = slots 48 [(2, (.int .u16 cut_)), (7, (.slice a6 ((fmtW gw gi gb).length) c7))] us) ∧ St B w [] w_ [kU64.row a6 c7 q11, blk b4 (.cells [(.int .i64 gw), (.int .i64 gi), (.int .i64 gb)].toArray 63 (0, 0))] ∧ image_J1 gw gi gb cut_ q11 = some r) ?_ ?_
 ·
  rintro _ w12 ⟨q11, ⟨us, rfl⟩, hs13, hm⟩
  unfold image_J1 at hm
  refine W.sr fun K14 hK14 => ?_
  refine zR 4 ?_
  obtain ⟨h15, hm⟩ := need_some hm
  refine zI _ (wrap_i64 h15.1 h15.2) ?_
  refine zR 3 ?_
  obtain ⟨h16, hm⟩ := need_some hm
  refine zI _ (wrap_i64 h16.1 h16.2) ?_
  obtain ⟨h17, hm⟩ := need_some hm
  have hc18 := St.kcap kU64 hs13 0 rfl
  obtain ⟨h19, hm⟩ := need_some hm
  rw [← h19] at hc18
  refine ops_R (runs_prefixL (a := a6) (n := (fmtW gw gi gb).length) (c := c7) (z := ((((fmtW gw gi gb).length) : Int) - (mn cut_ (((fmtW gw gi gb).length) : Int)))) (size := 1) (((((fmtW gw gi gb).length) : Int) - (mn cut_ (((fmtW gw gi gb).length) : Int))).toNat) (q11.take (((((fmtW gw gi gb).length) : Int) - (mn cut_ (((fmtW gw gi gb).length) : Int))).toNat)).length (le_take_len (by omega)) (nat_of h17.1) (le_toNat h17) hc18 (by kernel_rfl)) ?_
  refine zE 1 (hK14 _ _ ?_)
  refine W.ret ?_
  have hs20 := St.kprefix kU64 (((((fmtW gw gi gb).length) : Int) - (mn cut_ (((fmtW gw gi gb).length) : Int))).toNat) hs13
  obtain rfl := some_inj hm
  have hs21 := St.tk1 hs20
  refine ret_of (.slice a6 ((q11.take (((((fmtW gw gi gb).length) : Int) - (mn cut_ (((fmtW gw gi gb).length) : Int))).toNat)).length) c7) (by kernel_rfl) ⟨_, ⟨a6, c7, rfl, rfl⟩, hs21⟩
 ·
  refine W.sr fun K22 hK22 => ?_
  refine zE 1 (hK22 _ _ ?_)
  refine W.block ?_
  refine W.loop_iter (G := (List Int) × Int) (σ := (List Int) × Int) (fun | (q23, p24) => (q23, p24)) (fun | (q23, p24), s_, w_ => (∃ us, s_ = slots 48 [(1, (.slice ta ts.length tc)), (2, (.int .u16 cut_)), (7, (.slice a6 ((fmtW gw gi gb).length) c7)), (8, (.int .i64 p24))] us) ∧ St B w [] w_ [kU64.row a6 c7 q23, blk b4 (.cells [(.int .i64 gw), (.int .i64 gi), (.int .i64 gb)].toArray 63 (0, 0))]) ((fmtW gw gi gb), 0) ⟨slots_intro _ (by kernel_rfl), hs10⟩ hm ?_
  rintro k25 ih26 ⟨q23, p24⟩ _ w27 ⟨⟨us, rfl⟩, hs28⟩ hm
  replace hm : image_B0 gw gi gb ts cut_ k25 q23 p24 = some r := hm
  unfold image_B0 at hm
  refine W.seq fun K29 hK29 => ?_
  refine W.sr fun K30 hK30 => ?_
  refine zR 5 ?_
  rcases Bool.eq_false_or_eq_true (decide (p24 < (ts.length : Int))) with h31 | h31
  ·
   obtain ⟨h31p, hm⟩ := iY hm h31
   refine zS 15 h31 ?_
   refine zS 14 h31 ?_
   refine zE 4 (hK30 _ _ ?_)
   refine W.cond (decide ((((fmtW gw gi gb).length) : Int) > 0)) (by kernel_rfl) (fun h32 => ?_) (fun h32 => ?_)
   ·
    obtain ⟨h32p, hm⟩ := iY hm h32
    refine W.skip ?_
    refine hK29 _ _ ?_
    refine W.seq fun K33 hK33 => ?_
    refine W.block ?_
    have hs34 := hs28.drew
    have hs35 := St.f1 hs34
    have hs36 := St.tk1 hs35
    refine W.regionD [(0, 0), (0, 0), (0, 0), (6, 6), (8, 8), (16, 16), (32, 32), (0, 0), (128, 128), (320, 320), (0, 0), (0, 0), (3072, 3072), (4096, 4096), (8192, 8192), (32767, 513), (65535, 49152)] (fun w_ => St B w [] w_ [blk b4 (.cells [(.int .i64 gw), (.int .i64 gi), (.int .i64 gb)].toArray 63 (0, 0))]) (by kernel_rfl) hs36 ?_
    refine any_val (v := (.slice a6 ((fmtW gw gi gb).length) c7)) (v' := (.slice a6 ((fmtW gw gi gb).length) c7)) 0 (by kernel_rfl) (fun _ => by kernel_rfl) rfl hs36 ?_
    refine any_val (v := (.slice ta ts.length tc)) (v' := (.slice ta ts.length tc)) 1 (by kernel_rfl) (fun _ => by kernel_rfl) rfl hs36 ?_
    refine any_val (v := (.int .i64 p24)) (v' := (.int .i64 p24)) 2 (by kernel_rfl) (fun _ => by kernel_rfl) rfl hs36 ?_
    obtain ⟨h38, hm⟩ := need_some hm
    have hk37 := lt_toNat h38
    refine any_R 3 (by kernel_rfl) (fun _ hS_ => runs_index (a := ta) (n := ts.length) (z := p24) (size := 2) p24.toNat (nat_of h38.1) hk37 (kTn.addr (hs34.oldCells ht) hk37) (by kernel_rfl)) hs36 ?_
    refine any_val (v := (.pointer (some (adr ta (p24.toNat * 2))))) (v' := (.pointer (some (adr ta (p24.toNat * 2))))) 4 (by kernel_rfl) (fun _ => by kernel_rfl) rfl hs36 ?_
    refine any_R 5 (by kernel_rfl) (fun _ hS_ => runs_load (ad := ((adr ta (p24.toNat * 2)).add 0)) (v := (.int .u16 ((ts.getD p24.toNat dTn).c0))) (by kernel_rfl) (kTn.at (hS_.oldCells ht) hk37 dTn 0 rfl)) hs36 ?_
    obtain ⟨h39, hm⟩ := need_some hm
    refine any_val (v := .int .i64 (IntKind.i64.wrap ((ts.getD p24.toNat dTn).c0))) (v' := .int .i64 ((ts.getD p24.toNat dTn).c0)) 6 (by kernel_rfl) (fun _ => by kernel_rfl) (congrArg (Value.int .i64) (wrap_i64 h39.1 h39.2)) hs36 ?_
    refine any_val (v := (.slice a6 ((fmtW gw gi gb).length) c7)) (v' := (.slice a6 ((fmtW gw gi gb).length) c7)) 7 (by kernel_rfl) (fun _ => by kernel_rfl) rfl hs36 ?_
    refine any_val (v := (.int .i64 (((fmtW gw gi gb).length) : Int))) (v' := (.int .i64 (((fmtW gw gi gb).length) : Int))) 8 (by kernel_rfl) (fun _ => by kernel_rfl) rfl hs36 ?_
    obtain ⟨h40, hm⟩ := need_some hm
    refine any_R (v := .int .i64 (((ts.getD p24.toNat dTn).c0).tmod (((fmtW gw gi gb).length) : Int))) 9 (by kernel_rfl) (fun _ hS_ => runs_rem (k := .i64) (a := (ts.getD p24.toNat dTn).c0) (b := (((fmtW gw gi gb).length) : Int)) (by kernel_rfl) h40 rfl) hs36 ?_
    refine any_val (v := (.slice ta ts.length tc)) (v' := (.slice ta ts.length tc)) 10 (by kernel_rfl) (fun _ => by kernel_rfl) rfl hs36 ?_
    refine any_val (v := (.int .i64 p24)) (v' := (.int .i64 p24)) 11 (by kernel_rfl) (fun _ => by kernel_rfl) rfl hs36 ?_
    obtain ⟨h42, hm⟩ := need_some hm
    have hk41 := lt_toNat h42
    refine any_R 12 (by kernel_rfl) (fun _ hS_ => runs_index (a := ta) (n := ts.length) (z := p24) (size := 2) p24.toNat (nat_of h42.1) hk41 (kTn.addr (hs34.oldCells ht) hk41) (by kernel_rfl)) hs36 ?_
    refine any_val (v := (.pointer (some ((adr ta (p24.toNat * 2)).add 1)))) (v' := (.pointer (some ((adr ta (p24.toNat * 2)).add 1)))) 13 (by kernel_rfl) (fun _ => by kernel_rfl) rfl hs36 ?_
    refine any_R 14 (by kernel_rfl) (fun _ hS_ => runs_load (ad := ((adr ta (p24.toNat * 2)).add 1)) (v := (.int .u64 ((ts.getD p24.toNat dTn).c1))) (by kernel_rfl) (kTn.at (hS_.oldCells ht) hk41 dTn 1 rfl)) hs36 ?_
    obtain ⟨h44, hm⟩ := need_some hm
    have hk43 := lt_toNat h44
    obtain ⟨h46, hm⟩ := need_some hm
    have hk45 := h46
    refine any_R 15 (by kernel_rfl) (fun _ hS_ => runs_index (a := a6) (n := (fmtW gw gi gb).length) (z := (((ts.getD p24.toNat dTn).c0).tmod (((fmtW gw gi gb).length) : Int))) (size := 1) ((((ts.getD p24.toNat dTn).c0).tmod (((fmtW gw gi gb).length) : Int)).toNat) (nat_of h44.1) hk43 (kU64.addr (St.kcells kU64 hs34 0 rfl) hk45) (by kernel_rfl)) hs36 ?_
    refine any_step 16 (by kernel_rfl) (by kernel_rfl) ?_
    refine ops_storeK kU64 (j := 0) (vs := [(.int .u64 ((ts.getD p24.toNat dTn).c1))]) 0 ((ts.getD p24.toNat dTn).c1) hs34 hk45 (Nat.le_of_ble_eq_true rfl) (by simp) rfl rfl (by kernel_rfl) (fun w47 hs48 => ?_)
    have hs50 := St.f1 hs48
    have hs51 := St.tk1 hs50
    refine ops_done (by kernel_rfl) ⟨hs51, ?_⟩
    refine any_done (by kernel_rfl) ?_
    refine normal_block ?_
    refine hK33 _ _ ?_
    refine W.region ?_
    refine zR 1 ?_
    obtain ⟨h52, hm⟩ := need_some hm
    refine zI _ (wrap_i64 h52.1 h52.2) ?_
    refine zE 1 ?_
    refine loopAt_next ?_
    exact ih26 ((q23.set ((((ts.getD p24.toNat dTn).c0).tmod (((fmtW gw gi gb).length) : Int)).toNat) ((ts.getD p24.toNat dTn).c1)), (p24 + 1)) _ _ ⟨slots_intro _ (by kernel_rfl), hs48⟩ hm
   ·
    obtain ⟨h32p, hm⟩ := iN hm h32
    refine W.exit (exit_seq (exit_seq (exit_here ?_)))
    exact ⟨q23, slots_intro _ (by kernel_rfl), hs28, hm⟩
  ·
   obtain ⟨h31p, hm⟩ := iN hm h31
   refine zS 15 h31 ?_
   refine zS 14 h31 ?_
   refine zE 4 (hK30 _ _ ?_)
   refine W.cond_false false (by kernel_rfl) rfl ?_
   refine W.exit (exit_seq (exit_seq (exit_here ?_)))
   exact ⟨q23, slots_intro _ (by kernel_rfl), hs28, hm⟩

end Go.Proofs.YthimamnblklkbaaDoor

namespace Go.Proofs.YthimamnblklkbaaDoor
open Go Go.RowKit
set_option linter.unusedVariables false

theorem image_u64 {gw gi gb cut_ : Int} {ts : List TTn} (hc : 0 ≤ cut_ ∧ cut_ ≤ 65535) (ht : ∀ t ∈ ts, good_Tn t) (hl : ts.length ≤ 1000) :
    Ok (fun ws : List Int => ws.length ≤ 6232 ∧ (∀ x ∈ ws, U64 x) ∧ (cut_ = 0 → ws.length = (wordsOf gw gi gb).toNat)) (image_M gw gi gb ts cut_) := by
  have hw := words_le gw gi gb
  have hlen := fmtW_len gw gi gb
  have hfu : ∀ x ∈ fmtW gw gi gb, U64 x := fmtW_u64
  generalize hn : (fmtW gw gi gb).length = n at *
  have hn2 : n ≤ 6232 := by omega
  unfold image_M
  refine Ok.iter (fun s => s.1.length = n ∧ (∀ x ∈ s.1, U64 x) ∧ 0 ≤ s.2 ∧ s.2 ≤ (ts.length : Int)) (fun s => ((ts.length : Int) - s.2).toNat) ?_ _ _ ⟨hn, hfu, by omega, by omega⟩ (fuel_lt (by simp only; omega))
  rintro k ⟨q, p⟩ ⟨h1, hq, h2, h3⟩ ih
  simp only at h1 hq h2 h3 ih ⊢
  have fin : Ok (fun ws : List Int => ws.length ≤ 6232 ∧ (∀ x ∈ ws, U64 x) ∧ (cut_ = 0 → ws.length = (wordsOf gw gi gb).toNat)) (image_J1 gw gi gb cut_ q) := by
    unfold image_J1
    rw [hn]
    have hm : 0 ≤ mn cut_ n ∧ mn cut_ n ≤ n ∧ (cut_ = 0 → mn cut_ n = 0) := by unfold mn; split <;> omega
    refine Ok.need (by omega) (Ok.need (by omega) (Ok.need (by omega) (Ok.need (by omega) (Ok.some ⟨?_, fun x hx => hq x (List.mem_of_mem_take hx), ?_⟩))))
    · rw [List.length_take]; omega
    · intro h0; rw [List.length_take, hm.2.2 h0]; omega
  unfold image_B0
  rw [hn]
  refine Ok.ite (fun hp => ?_) (fun _ => fin)
  refine Ok.ite (fun hq0 => ?_) (fun _ => fin)
  have hpn : p.toNat < ts.length := by omega
  have hmem : ts.getD p.toNat dTn ∈ ts := by simp [List.getD, hpn]
  have hb := ht _ hmem
  have hb1 := hb.1
  have hb2 := hb.2
  have htm := Int.tmod_eq_emod_of_nonneg (b := (n : Int)) hb1.1
  have h5 := Int.emod_nonneg (ts.getD p.toNat dTn).c0 (b := (n : Int)) (by omega)
  have h6 := Int.emod_lt_of_pos (ts.getD p.toNat dTn).c0 (b := (n : Int)) (by omega)
  rw [htm]
  refine Ok.need (by omega) (Ok.need (by omega) (Ok.need (by omega) (Ok.need (by omega) (Ok.need (by omega) (Ok.need (by omega) (Ok.need (by omega) ?_))))))
  refine ih _ ⟨by rw [List.length_set]; exact h1, ?_, by omega, by omega⟩ (by omega)
  intro x hx
  rcases List.mem_or_eq_of_mem_set hx with h | h
  · exact hq x h
  · rw [h]; unfold U64; omega
end Go.Proofs.YthimamnblklkbaaDoor

namespace Go.Proofs.YthimamnblklkbaaDoor
open Go Go.RowKit
set_option linter.unusedVariables false
set_option linter.unusedSimpArgs false

variable {img : List Int} {l : List (Int × Int)}
theorem said_mem {k x : Int} : ∀ {ps : List (Int × Int)} {d : Int}, (∃ p ∈ ps, p.1 = k) → (∀ p ∈ ps, p.1 = k → p.2 = x) → said k ps d = x
  | [], _, h, _ => by obtain ⟨p, hp, _⟩ := h; simp at hp
  | p :: ps, d, h, hx => by
    unfold said
    by_cases h2 : ∃ q ∈ ps, q.1 = k
    · exact said_mem h2 fun q hq => hx q (by simp [hq])
    · obtain ⟨q, hq, rfl⟩ := h
      rcases List.mem_cons.1 hq with rfl | hq
      · rw [if_pos rfl, said_out fun q' hq' e => h2 ⟨q', hq', e.symm⟩]
        exact hx _ (by simp) rfl
      · exact absurd ⟨q, hq, rfl⟩ h2
theorem vwrite_same {a x : Int} (ha : 0 ≤ a ∧ a < (img.length : Int)) (h : vget img l a = x) : vwrite img l a x = (0, l) := by
  unfold vwrite
  rw [if_neg (by omega), if_pos h]
theorem vsets_same : ∀ {xs : List (Int × Int)}, (∀ p ∈ xs, (0 ≤ p.1 ∧ p.1 < (img.length : Int)) ∧ vget img l p.1 = p.2) → vsets img l xs = (0, l)
  | [], _ => rfl
  | x :: xs, h => by
    rw [vsets_cons, vwrite_same (h x (by simp)).1 (h x (by simp)).2]
    exact vsets_same fun p hp => h p (by simp [hp])
structure Saved (img : List Int) (m : List (Int × Int)) (at_ q re ra rb : Int) (rs : ByteArray) : Prop where
  num : vget img m at_ = q
  head : vget img m (at_ + 1) = re + 256 * (rs.size : Int)
  a : vget img m (at_ + 2) = ra
  b : vget img m (at_ + 3) = rb
  text : ∀ j : Nat, j < (packF rs).length → vget img m (at_ + 4 + (j : Int)) = (packF rs).getD j 0
theorem mem_saveL {at_ q re ra rb : Int} {rs : ByteArray} {p : Int × Int} : p ∈ saveL at_ q re ra rb rs ↔ p = (at_ + 1, re + 256 * (rs.size : Int)) ∨ p = (at_ + 2, ra) ∨ p = (at_ + 3, rb) ∨ (∃ j : Nat, j < (packF rs).length ∧ p = (at_ + 4 + (j : Int), (packF rs).getD j 0)) ∨ p = (at_, q) := by
  unfold saveL saveA
  simp only [List.mem_append, List.mem_cons, List.not_mem_nil, or_false, List.mem_map, List.mem_range, or_assoc]
  constructor
  · rintro (h | h | h | ⟨j, hj, h⟩ | h)
    · exact .inl h
    · exact .inr (.inl h)
    · exact .inr (.inr (.inl h))
    · exact .inr (.inr (.inr (.inl ⟨j, hj, h.symm⟩)))
    · exact .inr (.inr (.inr (.inr h)))
  · rintro (h | h | h | ⟨j, hj, h⟩ | h)
    · exact .inl h
    · exact .inr (.inl h)
    · exact .inr (.inr (.inl h))
    · exact .inr (.inr (.inr (.inl ⟨j, hj, h.symm⟩)))
    · exact .inr (.inr (.inr (.inr h)))
theorem saveL_val {at_ q re ra rb : Int} {rs : ByteArray} {p p' : Int × Int} (h : p ∈ saveL at_ q re ra rb rs) (h' : p' ∈ saveL at_ q re ra rb rs) (e : p.1 = p'.1) : p.2 = p'.2 := by
  rcases mem_saveL.1 h with rfl | rfl | rfl | ⟨j, hj, rfl⟩ | rfl <;> rcases mem_saveL.1 h' with rfl | rfl | rfl | ⟨j', hj', rfl⟩ | rfl <;> simp only at e ⊢ <;> first | omega | skip
  obtain rfl : j = j' := by omega
  rfl
theorem saveL_len (at_ q re ra rb : Int) (rs : ByteArray) : (saveL at_ q re ra rb rs).length = 4 + (packF rs).length := by
  unfold saveL saveA
  simp only [List.length_append, List.length_cons, List.length_nil, List.length_map, List.length_range]
  omega
theorem load_saved {m : List (Int × Int)} {i k q re ra rb : Int} {rs : ByteArray} (h0 : thereF img i k = 0) (hq : 1 ≤ q) (hm : mayF re rs = true) (h : Saved img m (slotAt i k) q re ra rb rs) :
    loadF img m i k = (q, re, ra, rb, rs, 0) := by
  have hmay := mayF_true.1 hm
  unfold loadF
  have hd := Int.tmod_eq_emod_of_nonneg (a := re + 256 * (rs.size : Int)) (b := 256) (by omega)
  have hd2 := Int.tdiv_eq_ediv_of_nonneg (a := re + 256 * (rs.size : Int)) (b := 256) (by omega)
  rw [if_pos h0, h.num, h.head, hd, hd2, show (re + 256 * (rs.size : Int)) % 256 = re by omega, show (re + 256 * (rs.size : Int)) / 256 = (rs.size : Int) by omega, if_neg (by omega), if_neg (by omega), if_neg (by omega), h.a, h.b, Int.toNat_natCast]
  have hpl := packF_len rs
  rw [bytesF_pack, str_nums]
  intro j hj
  have ht := h.text j (by omega)
  have : j = 0 ∨ j = 1 ∨ j = 2 ∨ j = 3 ∨ j = 4 ∨ j = 5 ∨ j = 6 ∨ j = 7 := by omega
  rw [← ht]
  rcases this with rfl | rfl | rfl | rfl | rfl | rfl | rfl | rfl <;> simp only [List.getD_cons_succ, List.getD_cons_zero] <;> congr 1 <;> omega
theorem save_in (hv : VJ img l) {i k q re ra rb : Int} {rs : ByteArray} (h0 : thereF img i k = 0) (hq : 1 ≤ q ∧ q ≤ 1099511627776) (hm : mayF re rs = true) (ha : U64 ra) (hb : U64 rb) (hl : l.length + 12 ≤ 96) :
    ∃ m, saveF img l i k q re ra rb rs = (0, m) ∧ VJ img m ∧ m.length ≤ l.length + (4 + (rs.size + 7) / 8) ∧ Saved img m (slotAt i k) q re ra rb rs ∧ (∀ j, ¬ (slotAt i k ≤ j ∧ j < slotAt i k + 12) → vget img m j = vget img l j) ∧ saveF img m i k q re ra rb rs = (0, m) := by
  have hmay := mayF_true.1 hm
  have ht := thereF_zero h0
  have hpl := packF_len rs
  have e0 : ∀ l', saveF img l' i k q re ra rb rs = vsets img l' (saveL (slotAt i k) q re ra rb rs) := by
    intro l'
    unfold saveF
    rw [if_neg (by rw [hm]; simp; omega), if_pos h0]
  have hin : ∀ p ∈ saveL (slotAt i k) q re ra rb rs, (slotAt i k ≤ p.1 ∧ p.1 < slotAt i k + 12) ∧ U64 p.2 := by
    intro p hp
    rcases mem_saveL.1 hp with rfl | rfl | rfl | ⟨j, hj, rfl⟩ | rfl
    · refine ⟨by simp only; omega, ?_⟩; unfold U64; simp only; omega
    · exact ⟨by simp only; omega, ha⟩
    · exact ⟨by simp only; omega, hb⟩
    · refine ⟨by simp only; omega, packF_u64 rs _ ?_⟩
      simp only [List.getD_eq_getElem?_getD, List.getElem?_eq_getElem hj, Option.getD_some]
      exact List.getElem_mem hj
    · refine ⟨by simp only; omega, ?_⟩; unfold U64; simp only; omega
  obtain ⟨m, e, hv2, hlen, hg⟩ := vsets_in (saveL (slotAt i k) q re ra rb rs) l hv (fun p hp => ⟨by have := (hin p hp).1; omega, (hin p hp).2⟩) (by rw [saveL_len]; omega)
  have hval : ∀ p ∈ saveL (slotAt i k) q re ra rb rs, vget img m p.1 = p.2 := fun p hp => by
    rw [hg]
    exact said_mem ⟨p, hp, rfl⟩ fun p' hp' e' => saveL_val hp' hp e'
  refine ⟨m, by rw [e0, e], hv2, by rw [saveL_len] at hlen; omega, ⟨?_, ?_, ?_, ?_, ?_⟩, ?_, ?_⟩
  · exact hval (slotAt i k, q) (mem_saveL.2 (by simp))
  · exact hval (slotAt i k + 1, _) (mem_saveL.2 (by simp))
  · exact hval (slotAt i k + 2, _) (mem_saveL.2 (by simp))
  · exact hval (slotAt i k + 3, _) (mem_saveL.2 (by simp))
  · intro j hj
    exact hval (slotAt i k + 4 + (j : Int), _) (mem_saveL.2 (.inr (.inr (.inr (.inl ⟨j, hj, rfl⟩)))))
  · intro j hj
    rw [hg]
    exact said_out fun p hp e' => hj (by have := (hin p hp).1; omega)
  · rw [e0]
    exact vsets_same fun p hp => ⟨by have := (hin p hp).1; omega, hval p hp⟩
end Go.Proofs.YthimamnblklkbaaDoor

namespace Go.Proofs.YthimamnblklkbaaDoor
open Go Go.RowKit
set_option linter.unusedVariables false
set_option linter.unusedSimpArgs false

variable {img : List Int} {l : List (Int × Int)}
theorem works10_stop : Ok (· = true) ((works10_M).bind fun r => some r) := by
  rw [works10_eq]
  exact Ok.some rfl
theorem wleast536 : (wordsOf 1 (2 + 0 % 20) (2 + 0 % 60)).toNat = 536 := by decide +kernel
theorem image_least {ts : List TTn} (ht : ∀ x ∈ ts, good_Tn x) (hl : ts.length ≤ 1000) : Ok (fun ws : List Int => ws.length = 536 ∧ (∀ x ∈ ws, U64 x)) (image_M 1 (2 + 0 % 20) (2 + 0 % 60) ts 0) :=
  (image_u64 (by omega) ht hl).mono fun ws h => ⟨(h.2.2 rfl).trans wleast536, h.2.1⟩
theorem flat_at (hok : VOk img l) {p : Int} (h : 0 ≤ p ∧ p < (img.length : Int)) : (vflat img l).getD p.toNat 0 = vget img l p := by
  rw [vflat_get hok (by omega), show ((p.toNat : Nat) : Int) = p by omega]
theorem img_at {p : Int} (h : 0 ≤ p ∧ p < (img.length : Int)) : img.getD p.toNat 0 = vget img [] p := by
  obtain ⟨k, rfl⟩ := Int.eq_ofNat_of_zero_le h.1
  rw [vget_nil (by omega), Int.toNat_natCast]
theorem mem_set_u64 {ws : List Int} (h : ∀ x ∈ ws, U64 x) {k : Nat} {f : Int} (hf : U64 f) : ∀ x ∈ ws.set k f, U64 x := by
  intro x hx
  rcases List.mem_or_eq_of_mem_set hx with h1 | h1
  · exact h x h1
  · rw [h1]; exact hf
theorem VJ.start (h : ∀ x ∈ img, U64 x) (hl : img.length ≤ 17592186044415) : VJ img [] := ⟨VR.nil h, VOk.nil hl⟩
end Go.Proofs.YthimamnblklkbaaDoor
